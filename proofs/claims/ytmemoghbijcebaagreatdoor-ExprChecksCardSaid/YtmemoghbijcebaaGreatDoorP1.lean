/-
  The statement ExprChecksCardSaid, proved; part 2 of 10 of its proof.
-/
import Derived.Test.YtmemoghbijcebaaGreatDoorP0
set_option linter.all false
set_option linter.unusedSectionVars false
set_option linter.unusedVariables false
set_option linter.unusedSimpArgs false
namespace Go.Abs
open Go
def Gh.setL (G:Gh)(L m b k:Nat)(pushed:Bool):Gh where
 O:=fun x=>if x=b then 0 else G.O x
 β:=fun l i=>if l=L∧i=m then b else G.β l i
 n:=fun l=>if l=L∧pushed=true then m+1 else G.n l
 sz:=fun l i=>if l=L∧i=m then k else G.sz l i
section
variable {G:Gh}{w:World}{L:Nat}{P:Program}
theorem iT {l:Lam}{o:Ob}{i:Nat}(h:i<l.length):aG (l++[o]) i=aG l i:=by
 simp[aG,List.getElem?_append_left h]
theorem kT {l:Lam}{o:Ob}:aG (l++[o]) l.length=o:=by
 simp[aG]
theorem uj {l:Lam}{o:Ob}{i:Nat}(h:l.length<i):aG (l++[o]) i= .dead:=by
 simp only[aG]
 rw[List.getElem?_eq_none (by simp;omega)]
def cF (cs:List LV)(cur:Array Value)(k b:Nat):Prop:= ∃x,cs[k]? =some x∧aH x (cur.getD k undef) b
theorem Rel.newLocal {s:S}{μ:Mu}{tm:Array Value}(R:Rel G L s μ tm w){cur:Array Value}{e:TypeId}{ob:Ob}{k:Nat}{fz:Nat×Nat}(hfz:ec cur fz)
  (hob : (∃ cs, ob = .cells cs ∧ cs.length ≤ cur.size ∧ ∀ j x, cs[j]? = some x → LVR G w L s.lam.length x (cur.getD j undef)) ∨
   (∃cs,ob= .arr k cs∧cs.length≤cur.size∧ ∀j x,cs[j]? =some x→VR G w x (cur.getD j undef)))
  (hown: ∀cs j b,ob= .cells cs→cF cs cur j b→(∀l,¬ay G w s.fr tm (μ++[s.lam]) l b)∧(∀lev i,aK (aE (μ++[s.lam]) lev i)→G.β lev i≠b)∧ ∀j',cF cs cur j' b→j'=j):
  let G1:=G.setL L s.lam.length w.heap.size k s.pushed
  let w1:=w.alloc (.cells cur e fz)
  let s1:S:={s with lam:=s.lam++[ob]}
  Rel G1 L s1 μ tm w1∧Le G w G1 w1∧
  (∀b,fI G1 w1 s1.fr tm (μ++[s1.lam]) b→fI G w s.fr tm (μ++[s.lam]) b∨b=w.heap.size∨ ∃cs j,ob= .cells cs∧cF cs cur j b)∧
  LVR G1 w1 L s1.lam.length (.loc s.lam.length 0) (.pointer (some ⟨w.heap.size,0,none⟩)):=by
 intro G1 w1 s1
 have hβ: ∀lev i,lev<L∨(lev=L∧i<s.lam.length)→G1.β lev i=G.β lev i∧G1.sz lev i=G.sz lev i:=by
  intro lev i h
  have: ¬(lev=L∧i=s.lam.length):=by omega
  simp only[G1,Gh.setL,this,if_false,and_self]
 have hβn:G1.β L s.lam.length=w.heap.size∧G1.sz L s.lam.length=k:=by simp[G1,Gh.setL]
 have hO: ∀b,b≠w.heap.size→G1.O b=G.O b:=fun b h=>by simp[G1,Gh.setL,h]
 have hOn:G1.O w.heap.size=0:=by simp[G1,Gh.setL]
 have hn: ∀lev,lev≠L→G1.n lev=G.n lev:=fun lev h=>by simp[G1,Gh.setL,h]
 have hnL:G1.n L=if s.pushed then s.lam.length+1 else 0:=by
  have:=R.nL
  cases hp:s.pushed<;>simp[G1,Gh.setL,hp,this]at this ⊢
 have hle:Le G w G1 w1:=by
  refine⟨fun b es clk h hb=> ?_,fun lev i h=> ?_,fun b off v h hc=> ?_,fun b cur' e' fz' h=> ?_⟩
  ·have hlt:b<w.heap.size:=gN hb
   rw[hO b (by omega),heap_alloc_old w _ hlt]
   exact⟨h,hb⟩
  ·by_cases hl:lev=L
   ·subst hl
    have:=R.nL
    cases hp:s.pushed<;>simp only[hp,if_true,if_false,Bool.false_eq_true]at this
    ·omega
    ·have hb:=hβ lev i (.inr ⟨rfl,by omega⟩)
     refine⟨?_,hb⟩
     rw[hnL,hp,if_pos rfl];omega
   ·by_cases hlt:lev<L
    ·exact⟨by rw[hn lev hl];exact h,hβ lev i (.inl hlt)⟩
    ·have:=R.ngt lev (by omega)
     omega
  ·have hb:b<w.heap.size:=Ad hc
   rw[hO b (by omega),lu hb]
   exact⟨h,hc⟩
  ·exact⟨cur',_,by rw[heap_alloc_old w _ (gN h)];exact h,rfl⟩
 have hT: ∀b,fI G w s.fr tm (μ++[s.lam]) b→w1.heap[b]? =w.heap[b]? ∧G1.O b=G.O b:=fun b hb=>by
  have:=R.touch_lt hb
  exact⟨heap_alloc_old w _ this,hO b (by omega)⟩
 have hlen:s1.lam.length=s.lam.length+1:=by simp[s1]
 have hnew:w1.heap[w.heap.size]? =some (.cells cur e fz):=heap_alloc_new w _
 have hlive: ∀lev i,aK (aE (μ++[s1.lam]) lev i)→(aK (aE (μ++[s.lam]) lev i)∧aE (μ++[s1.lam]) lev i=aE (μ++[s.lam]) lev i∧G1.β lev i=G.β lev i∧(lev<L∨(lev=L∧i<s.lam.length)))∨(lev=L∧i=s.lam.length∧aE (μ++[s1.lam]) lev i=ob):=by
  intro lev i h
  rcases cG (s:=s1) R.lev h with⟨h1,h2⟩|⟨rfl,h1,h2⟩
  ·have e:aE (μ++[s.lam]) lev i=aU μ lev i:=ba (by rw[R.lev];exact h1)
   rw[h2]at h ⊢
   exact .inl ⟨by rw[e];exact h,e.symm,(hβ lev i (.inl h1)).1,.inl h1⟩
  ·rw[hlen]at h1
   by_cases hi:i<s.lam.length
   ·have e:aE (μ++[s.lam]) lev i=aG s.lam i:=by rw[←R.lev];exact br
    have e2:aG s1.lam i=aG s.lam i:=iT hi
    rw[h2,e2]at h ⊢
    exact .inl ⟨by rw[e];exact h,e.symm,(hβ lev i (.inr ⟨rfl,hi⟩)).1,.inr ⟨rfl,hi⟩⟩
   ·have:i=s.lam.length:=by omega
    subst this
    rw[h2]
    exact .inr ⟨rfl,rfl,kT⟩
 have hownAt: ∀l b,ay G1 w1 s1.fr tm (μ++[s1.lam]) l b→ay G w s.fr tm (μ++[s.lam]) l b∨ ∃cs j,ob= .cells cs∧cF cs cur j b∧l= .ob L s.lam.length j:=by
  intro l b h
  cases l with
  |fr t=>exact .inl h
  |ob lev i j=>
   simp only[ay]at h ⊢
   split at h<;>try(exact h.elim)
   rename_i cs hcs
   split at h<;>try(exact h.elim)
   rename_i x hx
   obtain⟨cur',e',fz',hb,ho⟩:=h
   have hl:aK (aE (μ++[s1.lam]) lev i):=by rw[hcs];trivial
   rcases hlive lev i hl with⟨h1,h2,h3,h4⟩|⟨rfl,rfl,h2⟩
   ·left
    rw[←h2,hcs]
    simp only[hx]
    rw[h3]at hb
    have:G.β lev i<w.heap.size:=R.touch_lt (.inr ⟨lev,i,h1,rfl⟩)
    rw[heap_alloc_old w _ this]at hb
    exact⟨cur',e',fz',hb,ho⟩
   ·right
    rw[h2]at hcs
    rw[hβn.1,hnew]at hb
    obtain⟨rfl,_⟩:=(Obj.cells.injEq ..).mp (Option.some.inj hb)
    exact⟨cs,j,hcs,⟨x,hx,ho⟩,rfl⟩
 refine⟨⟨R.lev,fun t=> ?_,fun i=> ?_,fun lev i hl=> ?_,fun lev i lev' i' h h' e'=> ?_,fun l l' b h h'=> ?_,fun l b lev i h h' e'=> ?_,fun lev hl=> ?_,?_,fun lev hl=> ?_⟩,hle,fun b hb=> ?_,?_⟩
 ·rw[hlen]
  exact cZ hle (Nat.le_succ _) (fun i hi=>hβ L i (.inr ⟨rfl,hi⟩)) _ _ (fun b hb=>hT b (.inl ⟨.fr t,hb⟩)) (R.fr t)
 ·rw[hlen]
  by_cases hi:i<s.lam.length
  ·have e1:aE (μ++[s.lam]) L i=aG s.lam i:=by rw[←R.lev];exact br
   have e2:aG s1.lam i=aG s.lam i:=iT hi
   rw[e2,(hβ L i (.inr ⟨rfl,hi⟩)).1,(hβ L i (.inr ⟨rfl,hi⟩)).2]
   refine ci hle (Nat.le_succ _) (fun i hi=>hβ L i (.inr ⟨rfl,hi⟩)) (fun hl=>hT _ (.inr ⟨L,i,by rw[e1];exact hl,rfl⟩)) (fun cs j x cur e fz ho hx hb b' hb'=>hT b' (.inl ⟨.ob L i j,?_⟩)) (R.lam i)
   simp only[ay,e1,ho,hx]
   exact⟨cur,e,fz,hb,hb'⟩
  ·by_cases hi':i=s.lam.length
   ·subst hi'
    have e2:aG s1.lam s.lam.length=ob:=kT
    rw[e2,hβn.1,hβn.2]
    rcases hob with⟨cs,rfl,hc,hr⟩|⟨cs,rfl,hc,hr⟩
    ·simp only[ObR]
     refine⟨cur,e,fz,hnew,hfz,hOn,hc,fun j x hx=> ?_⟩
     refine cZ hle (Nat.le_succ _) (fun i hi=>hβ L i (.inr ⟨rfl,hi⟩)) _ _ (fun b hb=> ?_) (hr j x hx)
     have hlt:b<w.heap.size:=ko (hr j x hx) hb
     exact⟨heap_alloc_old w _ hlt,hO b (by omega)⟩
    ·simp only[ObR]
     exact⟨trivial,cur,e,fz,hnew,hfz,hOn,hc,fun j x hx=>bi hle x _ (hr j x hx)⟩
   ·have e2:aG s1.lam i= .dead:=uj (by omega)
    rw[e2]
    trivial
 ·have e1:aE (μ++[s.lam]) lev i=aU μ lev i:=ba (by rw[R.lev];exact hl)
  rw[(hβ lev i (.inl hl)).1,(hβ lev i (.inl hl)).2]
  refine ci (hle.below lev) (Nat.le_refl _) (fun i hi=>by omega) (fun h=>hT _ (.inr ⟨lev,i,by rw[e1];exact h,rfl⟩)) (fun cs j x cur e fz ho hx hb b' hb'=>hT b' (.inl ⟨.ob lev i j,?_⟩)) (R.mu lev i hl)
  simp only[ay,e1,ho,hx]
  exact⟨cur,e,fz,hb,hb'⟩
 ·rcases hlive lev i h with⟨h1,h2,h3,_⟩|⟨rfl,rfl,h2⟩<;>rcases hlive lev' i' h' with⟨h1',h2',h3',_⟩|⟨rfl,rfl,h2'⟩
  ·rw[h3,h3']at e';exact R.inj lev i lev' i' h1 h1' e'
  ·rw[h3,hβn.1]at e'
   have:=R.touch_lt (.inr ⟨lev,i,h1,rfl⟩)
   omega
  ·rw[h3',hβn.1]at e'
   have:=R.touch_lt (.inr ⟨lev',i',h1',rfl⟩)
   omega
  ·exact⟨rfl,rfl⟩
 ·rcases hownAt l b h with h1|⟨cs,j,h1,h2,rfl⟩<;>rcases hownAt l' b h' with h1'|⟨cs',j',h1',h2',rfl⟩
  ·exact R.own l l' b h1 h1'
  ·exact absurd h1 ((hown cs' j' b h1' h2').1 l)
  ·exact absurd h1' ((hown cs j b h1 h2).1 l')
  ·rw[h1]at h1'
   injection h1' with h1'
   subst h1'
   rw[(hown cs j b h1 h2).2.2 j' h2']
 ·rcases hlive lev i h' with⟨h2,h3,h4,_⟩|⟨rfl,rfl,h3⟩
  ·rw[h4]at e'
   rcases hownAt l b h with h1|⟨cs,j,h1,h1',rfl⟩
   ·exact R.apart l b lev i h1 h2 e'
   ·exact(hown cs j b h1 h1').2.1 lev i h2 e'
  ·rw[hβn.1]at e'
   rcases hownAt l b h with h1|⟨cs,j,h1,h1',rfl⟩
   ·have:=R.touch_lt (.inl ⟨l,h1⟩)
    omega
   ·rcases hob with⟨cs',e3,hc,hr⟩|⟨cs',e3,hc,hr⟩
    ·rw[h1]at e3
     injection e3 with e3
     subst e3
     obtain⟨x,hx,ho⟩:=h1'
     have:=ko (hr j x hx) ho
     omega
    ·rw[h1]at e3;cases e3
 ·rw[hn lev (by omega)];exact R.nlt lev hl
 ·rw[hnL,hlen]
 ·rw[hn lev (by omega)];exact R.ngt lev hl
 ·rcases hb with⟨l,hb⟩|⟨lev,i,hl,rfl⟩
  ·rcases hownAt l b hb with h1|⟨cs,j,h1,h2,rfl⟩
   ·exact .inl (.inl ⟨l,h1⟩)
   ·exact .inr (.inr ⟨cs,j,h1,h2⟩)
  ·rcases hlive lev i hl with⟨h1,h2,h3,_⟩|⟨rfl,rfl,h2⟩
   ·exact .inl (.inr ⟨lev,i,h1,h3.symm⟩)
   ·exact .inr (.inl hβn.1)
 ·simp only[LVR]
  exact⟨by rw[hlen];omega,by rw[hβn.1]⟩
theorem Rel.newMap {s:S}{μ:Mu}{tm:Array Value}(R:Rel G L s μ tm w):
  let G1:=G.setL L s.lam.length w.heap.size 0 s.pushed
  let w1:=w.alloc (.map #[] 0)
  let s1:S:={s with lam:=s.lam++[.map [] []]}
  Rel G1 L s1 μ tm w1∧Le G w G1 w1∧
  (∀b,fI G1 w1 s1.fr tm (μ++[s1.lam]) b→fI G w s.fr tm (μ++[s.lam]) b∨b=w.heap.size)∧
  LVR G1 w1 L s1.lam.length (.mloc s.lam.length) (.map (some w.heap.size)):=by
 intro G1 w1 s1
 have hβ: ∀lev i,lev<L∨(lev=L∧i<s.lam.length)→G1.β lev i=G.β lev i∧G1.sz lev i=G.sz lev i:=by
  intro lev i h
  have: ¬(lev=L∧i=s.lam.length):=by omega
  simp only[G1,Gh.setL,this,if_false,and_self]
 have hβn:G1.β L s.lam.length=w.heap.size∧G1.sz L s.lam.length=0:=by simp[G1,Gh.setL]
 have hO: ∀b,b≠w.heap.size→G1.O b=G.O b:=fun b h=>by simp[G1,Gh.setL,h]
 have hOn:G1.O w.heap.size=0:=by simp[G1,Gh.setL]
 have hn: ∀lev,lev≠L→G1.n lev=G.n lev:=fun lev h=>by simp[G1,Gh.setL,h]
 have hnL:G1.n L=if s.pushed then s.lam.length+1 else 0:=by
  have:=R.nL
  cases hp:s.pushed<;>simp[G1,Gh.setL,hp,this]at this ⊢
 have hle:Le G w G1 w1:=by
  refine⟨fun b es clk h hb=> ?_,fun lev i h=> ?_,fun b off v h hc=> ?_,fun b cur' e' fz' h=> ?_⟩
  ·have hlt:b<w.heap.size:=gN hb
   rw[hO b (by omega),heap_alloc_old w _ hlt]
   exact⟨h,hb⟩
  ·by_cases hl:lev=L
   ·subst hl
    have:=R.nL
    cases hp:s.pushed<;>simp only[hp,if_true,if_false,Bool.false_eq_true]at this
    ·omega
    ·have hb:=hβ lev i (.inr ⟨rfl,by omega⟩)
     refine⟨?_,hb⟩
     rw[hnL,hp,if_pos rfl];omega
   ·by_cases hlt:lev<L
    ·exact⟨by rw[hn lev hl];exact h,hβ lev i (.inl hlt)⟩
    ·have:=R.ngt lev (by omega)
     omega
  ·have hb:b<w.heap.size:=Ad hc
   rw[hO b (by omega),lu hb]
   exact⟨h,hc⟩
  ·exact⟨cur',_,by rw[heap_alloc_old w _ (gN h)];exact h,rfl⟩
 have hT: ∀b,fI G w s.fr tm (μ++[s.lam]) b→w1.heap[b]? =w.heap[b]? ∧G1.O b=G.O b:=fun b hb=>by
  have:=R.touch_lt hb
  exact⟨heap_alloc_old w _ this,hO b (by omega)⟩
 have hlen:s1.lam.length=s.lam.length+1:=by simp[s1]
 have hnew:w1.heap[w.heap.size]? =some (.map #[] 0):=heap_alloc_new w _
 have hlive: ∀lev i,aK (aE (μ++[s1.lam]) lev i)→(aK (aE (μ++[s.lam]) lev i)∧aE (μ++[s1.lam]) lev i=aE (μ++[s.lam]) lev i∧G1.β lev i=G.β lev i∧(lev<L∨(lev=L∧i<s.lam.length)))∨(lev=L∧i=s.lam.length∧aE (μ++[s1.lam]) lev i= .map [] []):=by
  intro lev i h
  rcases cG (s:=s1) R.lev h with⟨h1,h2⟩|⟨rfl,h1,h2⟩
  ·have e:aE (μ++[s.lam]) lev i=aU μ lev i:=ba (by rw[R.lev];exact h1)
   rw[h2]at h ⊢
   exact .inl ⟨by rw[e];exact h,e.symm,(hβ lev i (.inl h1)).1,.inl h1⟩
  ·rw[hlen]at h1
   by_cases hi:i<s.lam.length
   ·have e:aE (μ++[s.lam]) lev i=aG s.lam i:=by rw[←R.lev];exact br
    have e2:aG s1.lam i=aG s.lam i:=iT hi
    rw[h2,e2]at h ⊢
    exact .inl ⟨by rw[e];exact h,e.symm,(hβ lev i (.inr ⟨rfl,hi⟩)).1,.inr ⟨rfl,hi⟩⟩
   ·have:i=s.lam.length:=by omega
    subst this
    rw[h2]
    exact .inr ⟨rfl,rfl,kT⟩
 have hownAt: ∀l b,ay G1 w1 s1.fr tm (μ++[s1.lam]) l b→ay G w s.fr tm (μ++[s.lam]) l b:=by
  intro l b h
  cases l with
  |fr t=>exact h
  |ob lev i j=>
   simp only[ay]at h ⊢
   split at h<;>try(exact h.elim)
   rename_i cs hcs
   split at h<;>try(exact h.elim)
   rename_i x hx
   obtain⟨cur',e',fz',hb,ho⟩:=h
   have hl:aK (aE (μ++[s1.lam]) lev i):=by rw[hcs];trivial
   rcases hlive lev i hl with⟨h1,h2,h3,h4⟩|⟨rfl,rfl,h2⟩
   ·rw[←h2,hcs]
    simp only[hx]
    rw[h3]at hb
    have:G.β lev i<w.heap.size:=R.touch_lt (.inr ⟨lev,i,h1,rfl⟩)
    rw[heap_alloc_old w _ this]at hb
    exact⟨cur',e',fz',hb,ho⟩
   ·rw[h2]at hcs
    cases hcs
 refine⟨⟨R.lev,fun t=> ?_,fun i=> ?_,fun lev i hl=> ?_,fun lev i lev' i' h h' e'=> ?_,fun l l' b h h'=> ?_,fun l b lev i h h' e'=> ?_,fun lev hl=> ?_,?_,fun lev hl=> ?_⟩,hle,fun b hb=> ?_,?_⟩
 ·rw[hlen]
  exact cZ hle (Nat.le_succ _) (fun i hi=>hβ L i (.inr ⟨rfl,hi⟩)) _ _ (fun b hb=>hT b (.inl ⟨.fr t,hb⟩)) (R.fr t)
 ·rw[hlen]
  by_cases hi:i<s.lam.length
  ·have e1:aE (μ++[s.lam]) L i=aG s.lam i:=by rw[←R.lev];exact br
   have e2:aG s1.lam i=aG s.lam i:=iT hi
   rw[e2,(hβ L i (.inr ⟨rfl,hi⟩)).1,(hβ L i (.inr ⟨rfl,hi⟩)).2]
   refine ci hle (Nat.le_succ _) (fun i hi=>hβ L i (.inr ⟨rfl,hi⟩)) (fun hl=>hT _ (.inr ⟨L,i,by rw[e1];exact hl,rfl⟩)) (fun cs j x cur e fz ho hx hb b' hb'=>hT b' (.inl ⟨.ob L i j,?_⟩)) (R.lam i)
   simp only[ay,e1,ho,hx]
   exact⟨cur,e,fz,hb,hb'⟩
  ·by_cases hi':i=s.lam.length
   ·subst hi'
    have e2:aG s1.lam s.lam.length= .map [] []:=kT
    rw[e2,hβn.1,hβn.2]
    simp only[ObR]
    exact⟨#[],0,hnew,hOn,rfl,by simp[VRL]⟩
   ·have e2:aG s1.lam i= .dead:=uj (by omega)
    rw[e2]
    trivial
 ·have e1:aE (μ++[s.lam]) lev i=aU μ lev i:=ba (by rw[R.lev];exact hl)
  rw[(hβ lev i (.inl hl)).1,(hβ lev i (.inl hl)).2]
  refine ci (hle.below lev) (Nat.le_refl _) (fun i hi=>by omega) (fun h=>hT _ (.inr ⟨lev,i,by rw[e1];exact h,rfl⟩)) (fun cs j x cur e fz ho hx hb b' hb'=>hT b' (.inl ⟨.ob lev i j,?_⟩)) (R.mu lev i hl)
  simp only[ay,e1,ho,hx]
  exact⟨cur,e,fz,hb,hb'⟩
 ·rcases hlive lev i h with⟨h1,h2,h3,_⟩|⟨rfl,rfl,h2⟩<;>rcases hlive lev' i' h' with⟨h1',h2',h3',_⟩|⟨rfl,rfl,h2'⟩
  ·rw[h3,h3']at e';exact R.inj lev i lev' i' h1 h1' e'
  ·rw[h3,hβn.1]at e'
   have:=R.touch_lt (.inr ⟨lev,i,h1,rfl⟩)
   omega
  ·rw[h3',hβn.1]at e'
   have:=R.touch_lt (.inr ⟨lev',i',h1',rfl⟩)
   omega
  ·exact⟨rfl,rfl⟩
 ·exact R.own l l' b (hownAt l b h) (hownAt l' b h')
 ·rcases hlive lev i h' with⟨h2,h3,h4,_⟩|⟨rfl,rfl,h3⟩
  ·rw[h4]at e'
   exact R.apart l b lev i (hownAt l b h) h2 e'
  ·rw[hβn.1]at e'
   have:=R.touch_lt (.inl ⟨l,hownAt l b h⟩)
   omega
 ·rw[hn lev (by omega)];exact R.nlt lev hl
 ·rw[hnL,hlen]
 ·rw[hn lev (by omega)];exact R.ngt lev hl
 ·rcases hb with⟨l,hb⟩|⟨lev,i,hl,rfl⟩
  ·exact .inl (.inl ⟨l,hownAt l b hb⟩)
  ·rcases hlive lev i hl with⟨h1,h2,h3,_⟩|⟨rfl,rfl,h2⟩
   ·exact .inl (.inr ⟨lev,i,h1,h3.symm⟩)
   ·exact .inr hβn.1
 ·simp only[LVR]
  exact⟨by rw[hlen];omega,by rw[hβn.1]⟩
end
end Go.Abs
set_option linter.unusedVariables false
set_option linter.unusedSimpArgs false
namespace Go.Abs
open Go
section
variable {G:Gh}{w:World}{L:Nat}{P:Program}
theorem lK (g o:Nat)(t:TypeId)(fz:Nat×Nat): ∀(vs:List Value) (i:Nat) (cur:Array Value) (w:World),w.heap[g]? =some (.cells cur t fz)→ec cur fz→
    o+i+vs.length≤cur.size→(∀v∈vs,v.oneCell'=true)→(storeCells ⟨g,o,none⟩ vs i).run P w= .ok () (w.setRow g (bL cur (o+i) vs))
  |[],i,cur,w,hg,_,_,_=>by
    simp only[storeCells,bL]
    rw[setRow_self w g cur t fz hg]
    rfl
  |v::rest,i,cur,w,hg,hu,hl,h1=>by
    have hi:o+i<cur.size:=by simp at hl;omega
    have hcell:w.cell? ⟨g,o+i,none⟩=some cur[o+i]:=by simp[World.cell?,hg,hi]
    have hfro:w.frozen? ⟨g,o+i,none⟩=false:=by
      have:=hu (o+i) hi
      obtain⟨lo,hi'⟩:=fz
      simp only[World.frozen?,hg]
      simp only[Bool.and_eq_false_iff,decide_eq_false_iff_not]
      simp only at this
      omega
    have hst:(store ((⟨g,o,none⟩:Addr).add i) v).run P w= .ok () (w.setRow g (cur.setIfInBounds (o+i) v)):=by
      rw[dP,run_store P w _ v _ (h1 v (by simp)),hcell]
      simp[hfro,setCell_eq_setRow w g (o+i) cur t fz v hg]
    have ih:=lK g o t fz rest (i+1) (cur.setIfInBounds (o+i) v) (w.setRow g (cur.setIfInBounds (o+i) v)) (setRow_heap w g cur _ t _ hg) (fun j hj=>hu j (by simpa using hj)) (by simp at hl ⊢; omega) (fun x hx=>h1 x (by simp[hx]))
    simp only[storeCells,Sem.run_bind,hst,Result.andThen_ok,ih,setRow_setRow,bL]
    rfl
theorem M6 {b:Nat}{cur cur':Array Value}{e:TypeId}{fz:Nat×Nat}(hb:w.heap[b]? =some (.cells cur e fz))(hO:G.O b=0)(hs:cur'.size=cur.size):Le G w G (w.setRow b cur'):=by
  refine⟨fun b' es clk h hb'=> ?_,fun _ _ h=>⟨h,rfl,rfl⟩,fun b' off v h hc=> ?_,fun b' cur2 e2 fz2 h=> ?_⟩
  · have hne:b'≠b:=fun e=>by subst e;omega
    exact⟨h,by rw[setRow_other w b b' cur' hne];exact hb'⟩
  · have hne:b'≠b:=fun e=>by subst e;omega
    refine⟨h,?_⟩
    rw[←hc]
    simp only[World.cell?]
    rw[setRow_other w b b' cur' hne]
  · by_cases hne:b'=b
    · subst hne
      rw[hb]at h
      obtain⟨rfl,rfl,rfl⟩:=(Obj.cells.injEq ..).mp (Option.some.inj h)
      exact⟨cur',fz,setRow_heap w b' cur cur' e fz hb,hs⟩
    · exact⟨cur2,fz2,by rw[setRow_other w b b' cur' hne];exact h,rfl⟩
theorem xv {H:Mu}{lev i:Nat}{o:Ob}(h:aK (aU H lev i))(l j:Nat):aU (bj H lev i o) l j=if l=lev∧j=i then o else aU H l j:=by
  unfold bj
  cases hl:H[lev]? with
  |none=>simp only[aU,hl]at h;exact h.elim
  |some lam=>
    have hlt:lev<H.length:=(List.getElem?_eq_some_iff.1 hl).1
    have hi:i<lam.length:=by
      simp only[aU,hl]at h
      by_cases hi:i<lam.length
      · exact hi
      · rw[List.getElem?_eq_none (by omega)]at h;exact h.elim
    simp only[aU]
    by_cases e:l=lev
    · subst e
      rw[List.getElem?_set_self hlt,hl]
      simp only[true_and]
      by_cases e2:j=i
      · subst e2;rw[List.getElem?_set_self hi];simp
      · rw[List.getElem?_set_ne (by omega)];simp[e2]
    · rw[List.getElem?_set_ne (by omega)];simp[e]
theorem iW {H:Mu}{lev i:Nat}{o:Ob}:(bj H lev i o).length=H.length∧ ∀l,((bj H lev i o).getD l []).length=(H.getD l []).length:=by
  unfold bj
  cases hl:H[lev]? with
  |none=>exact⟨rfl,fun _=>rfl⟩
  |some lam=>
    refine⟨by simp,fun l=> ?_⟩
    simp only[List.getD_eq_getElem?_getD]
    by_cases e:l=lev
    · subst e
      rw[List.getElem?_set_self (List.getElem?_eq_some_iff.1 hl).1,hl]
      simp
    · rw[List.getElem?_set_ne (by omega)]
theorem Rel.setOb {s s1:S}{μ μ1:Mu}{tm:Array Value}(R:Rel G L s μ tm w){lev i:Nat}{o':Ob}(hl:aK (aE (μ++[s.lam]) lev i)){cur cur':Array Value}{e:TypeId}{fz:Nat×Nat}
    (hb:w.heap[G.β lev i]? =some (.cells cur e fz)) (hs:cur'.size=cur.size)
    (hfr:s1.fr=s.fr) (hp:s1.pushed=s.pushed) (hlen:s1.lam.length=s.lam.length) (hμlen:μ1.length=μ.length) (hH:μ1++[s1.lam]=bj (μ++[s.lam]) lev i o')
    (hob: ∀G' w',Le G w G' w'→G'=G→w'=w.setRow (G.β lev i) cur'→(lev=L→ObR G' w' L s.lam.length (G.β lev i) (G.sz lev i) o')∧(lev<L→ObR (G'.below lev) w' lev 0 (G.β lev i) (G.sz lev i) o'))
    (hown : ∀ cs' k b, o' = .cells cs' → cF cs' cur' k b → ay G w s.fr tm (μ ++ [s.lam]) (.ob lev i k) b ∨
      ((∀l,¬ay G w s.fr tm (μ++[s.lam]) l b)∧(∀lev i,aK (aE (μ++[s.lam]) lev i)→G.β lev i≠b)∧ ∀k',cF cs' cur' k' b→k'=k)):
    Rel G L s1 μ1 tm (w.setRow (G.β lev i) cur')∧Le G w G (w.setRow (G.β lev i) cur')∧
    (∀b,fI G (w.setRow (G.β lev i) cur') s1.fr tm (μ1++[s1.lam]) b→fI G w s.fr tm (μ++[s.lam]) b∨ ∃cs' k,o'= .cells cs'∧cF cs' cur' k b)∧
    (∀l b,ay G (w.setRow (G.β lev i) cur') s1.fr tm (μ1++[s1.lam]) l b→ay G w s.fr tm (μ++[s.lam]) l b∨ ∃cs' k,o'= .cells cs'∧cF cs' cur' k b∧l= .ob lev i k)∧
    (∀k b,ay G (w.setRow (G.β lev i) cur') s1.fr tm (μ1++[s1.lam]) (.ob lev i k) b→ ∃cs',o'= .cells cs'∧cF cs' cur' k b)∧
    (∀l j,aK (aE (μ1++[s1.lam]) l j)→aK (aE (μ++[s.lam]) l j)):=by
  have hO:G.O (G.β lev i)=0:=by
    rcases cG R.lev hl with⟨h1,h2⟩|⟨rfl,h1,h2⟩
    · have:=R.mu lev i h1
      rw[←h2]at this
      revert this hl
      cases aE (μ++[s.lam]) lev i with
      |dead=>intro h;exact h.elim
      |cells cs=>intro _ h;simp only[ObR]at h;obtain⟨_,_,_,_,_,h,_⟩:=h;exact h
      |arr k cs=>intro _ h;simp only[ObR]at h;obtain⟨_,_,_,_,_,_,h,_⟩:=h;exact h
      |map ks vs=>intro _ h;simp only[ObR]at h;obtain⟨_,_,_,h,_⟩:=h;exact h
    · have:=R.lam i
      rw[←h2]at this
      revert this hl
      cases aE (μ++[s.lam]) lev i with
      |dead=>intro h;exact h.elim
      |cells cs=>intro _ h;simp only[ObR]at h;obtain⟨_,_,_,_,_,h,_⟩:=h;exact h
      |arr k cs=>intro _ h;simp only[ObR]at h;obtain⟨_,_,_,_,_,_,h,_⟩:=h;exact h
      |map ks vs=>intro _ h;simp only[ObR]at h;obtain⟨_,_,_,h,_⟩:=h;exact h
  have hle:=M6 (G:=G) hb hO hs
  have hset:=xv (o:=o') hl
  have hAt: ∀l j,aE (μ1++[s1.lam]) l j=if l=lev∧j=i then o' else aE (μ++[s.lam]) l j:=fun l j=>by rw[aE,hH];exact hset l j
  have hlvl:lev≤L:=by rcases cG R.lev hl with⟨h1,_⟩|⟨h1,_⟩<;>omega
  have hblk: ∀b,b≠G.β lev i→(w.setRow (G.β lev i) cur').heap[b]? =w.heap[b]? :=fun b h=>setRow_other w _ b cur' h
  have hlive: ∀l j,aK (aE (μ1++[s1.lam]) l j)→aK (aE (μ++[s.lam]) l j):=by
    intro l j h
    rw[hAt]at h
    split at h
    · rename_i e;rw[e.1,e.2];exact hl
    · exact h
  have hne: ∀l j,aK (aE (μ++[s.lam]) l j)→ ¬(l=lev∧j=i)→G.β l j≠G.β lev i:=fun l j h hn e=>hn (R.inj l j lev i h hl e)
  have hownAt: ∀l b,ay G (w.setRow (G.β lev i) cur') s1.fr tm (μ1++[s1.lam]) l b→(ay G w s.fr tm (μ++[s.lam]) l b)∨
      ∃cs' k,o'= .cells cs'∧cF cs' cur' k b∧l= .ob lev i k∧((∀l,¬ay G w s.fr tm (μ++[s.lam]) l b)∧(∀lev i,aK (aE (μ++[s.lam]) lev i)→G.β lev i≠b)∧ ∀k',cF cs' cur' k' b→k'=k):=by
    intro l b h
    cases l with
    |fr t=>rw[hfr]at h;exact .inl h
    |ob l j k=>
      simp only[ay]at h
      split at h<;>try(exact h.elim)
      rename_i cs hcs
      split at h<;>try(exact h.elim)
      rename_i x hx
      obtain⟨cur2,e2,fz2,hb2,ho⟩:=h
      rw[hAt]at hcs
      split at hcs
      · rename_i e
        obtain⟨rfl,rfl⟩:=e
        rw[setRow_heap w _ cur cur' e fz hb]at hb2
        obtain⟨rfl,_⟩:=(Obj.cells.injEq ..).mp (Option.some.inj hb2)
        rcases hown cs k b hcs ⟨x,hx,ho⟩with h|h
        · exact .inl h
        · exact .inr ⟨cs,k,hcs,⟨x,hx,ho⟩,rfl,h⟩
      · rename_i e
        have hl2:aK (aE (μ++[s.lam]) l j):=by rw[hcs];trivial
        rw[hblk _ (hne l j hl2 e)]at hb2
        left
        simp only[ay,hcs,hx]
        exact⟨cur2,e2,fz2,hb2,ho⟩
  have hownBlk: ∀l b,ay G w s.fr tm (μ++[s.lam]) l b→(w.setRow (G.β lev i) cur').heap[b]? =w.heap[b]? ∧G.O b=G.O b:=fun l b h=>⟨hblk b fun e=>R.apart l b lev i h hl e.symm,rfl⟩
  refine⟨⟨by rw[hμlen];exact R.lev,fun t=> ?_,fun j=> ?_,fun l j hlt=> ?_,fun l j l' j' h h' e'=>R.inj l j l' j' (hlive l j h) (hlive l' j' h') e',fun l l' b h h'=> ?_,fun l b l' j h h' e'=> ?_,fun l hlt=> ?_,?_,R.ngt⟩,hle,fun b hb=> ?_,fun l b h=>(hownAt l b h).imp id fun⟨cs,k,h1,h2,h3,_⟩=>⟨cs,k,h1,h2,h3⟩,fun k b h=> ?_,hlive⟩
  · rw[hfr,hlen]
    exact cZ hle (Nat.le_refl _) (fun _ _=>⟨rfl,rfl⟩) _ _ (fun b hb=>hownBlk (.fr t) b hb) (R.fr t)
  · rw[hlen]
    have e1:aE (μ1++[s1.lam]) L j=aG s1.lam j:=by rw[←R.lev,←hμlen];exact br
    have e2:aE (μ++[s.lam]) L j=aG s.lam j:=by rw[←R.lev];exact br
    rw[←e1,hAt]
    split
    · rename_i e
      obtain⟨rfl,rfl⟩:=e
      exact(hob G _ hle rfl rfl).1 rfl
    · rename_i e
      rw[e2]
      refine ci hle (Nat.le_refl _) (fun _ _=>⟨rfl,rfl⟩) (fun h=>⟨hblk _ (hne L j (by rw[e2];exact h) e),rfl⟩) (fun cs k x cur e fz ho hx hb b' hb'=>hownBlk (.ob L j k) b' ?_) (R.lam j)
      simp only[ay,e2,ho,hx]
      exact⟨cur,e,fz,hb,hb'⟩
  · have e1:aE (μ1++[s1.lam]) l j=aU μ1 l j:=ba (by rw[hμlen,R.lev];exact hlt)
    have e2:aE (μ++[s.lam]) l j=aU μ l j:=ba (by rw[R.lev];exact hlt)
    rw[←e1,hAt]
    split
    · rename_i e
      obtain⟨rfl,rfl⟩:=e
      exact(hob G _ hle rfl rfl).2 hlt
    · rename_i e
      rw[e2]
      refine ci (hle.below l) (Nat.le_refl _) (fun _ h=>by omega) (fun h=>⟨hblk _ (hne l j (by rw[e2];exact h) e),rfl⟩) (fun cs k x cur e fz ho hx hb b' hb'=>hownBlk (.ob l j k) b' ?_) (R.mu l j hlt)
      simp only[ay,e2,ho,hx]
      exact⟨cur,e,fz,hb,hb'⟩
  · rcases hownAt l b h with h1|⟨cs,k,h1,h2,rfl,h3⟩<;>rcases hownAt l' b h' with h1'|⟨cs',k',h1',h2',rfl,h3'⟩
    · exact R.own l l' b h1 h1'
    · exact absurd h1 (h3'.1 l)
    · exact absurd h1' (h3.1 l')
    · rw[h1]at h1'
      injection h1' with h1'
      subst h1'
      rw[h3.2.2 k' h2']
  · rcases hownAt l b h with h1|⟨cs,k,h1,h2,rfl,h3⟩
    · exact R.apart l b l' j h1 (hlive l' j h') e'
    · exact h3.2.1 l' j (hlive l' j h') e'
  · have h1:(μ1.getD l []).length=(μ.getD l []).length:=by
      have:=(iW (H:=μ++[s.lam]) (lev:=lev) (i:=i) (o:=o')).2 l
      rw[←hH]at this
      have a1:l<μ1.length:=by rw[hμlen,R.lev];exact hlt
      have a2:l<μ.length:=by rw[R.lev];exact hlt
      simp only[List.getD_eq_getElem?_getD,List.getElem?_append_left a1,List.getElem?_append_left a2]at this ⊢
      exact this
    rw[h1];exact R.nlt l hlt
  · rw[hp,hlen];exact R.nL
  · rcases hb with⟨l,hb⟩|⟨l,j,h,rfl⟩
    · rcases hownAt l b hb with h1|⟨cs,k,h1,h2,_⟩
      · exact .inl (.inl ⟨l,h1⟩)
      · exact .inr ⟨cs,k,h1,h2⟩
    · exact .inl (.inr ⟨l,j,hlive l j h,rfl⟩)
  · simp only[ay]at h
    split at h<;>try(exact h.elim)
    rename_i cs hcs
    split at h<;>try(exact h.elim)
    rename_i x hx
    obtain⟨cur2,e2,fz2,hb2,ho⟩:=h
    rw[hAt,if_pos ⟨rfl,rfl⟩]at hcs
    rw[setRow_heap w _ cur cur' e fz hb]at hb2
    obtain⟨rfl,_⟩:=(Obj.cells.injEq ..).mp (Option.some.inj hb2)
    exact⟨cs,hcs,x,hx,ho⟩
theorem Uu {s:S}{μ:Mu}{tm:Array Value}(R:Rel G L s μ tm w){lev i:Nat}{cs:List LV}(h:aE (μ++[s.lam]) lev i= .cells cs):
    ∃cur e fz,w.heap[G.β lev i]? =some (.cells cur e fz)∧ec cur fz∧cs.length≤cur.size∧
      ((lev = L ∧ i < s.lam.length ∧ aG s.lam i = .cells cs ∧ ∀ j x, cs[j]? = some x → LVR G w L s.lam.length x (cur.getD j undef)) ∨
       (lev<L∧aU μ lev i= .cells cs∧ ∀j x,cs[j]? =some x→LVR (G.below lev) w lev 0 x (cur.getD j undef))):=by
  have hl:aK (aE (μ++[s.lam]) lev i):=by rw[h];trivial
  rcases cG R.lev hl with⟨h1,h2⟩|⟨rfl,h1,h2⟩
  · rw[h]at h2
    have:=R.mu lev i h1
    rw[←h2]at this
    simp only[ObR]at this
    obtain⟨cur,e,fz,a,b,_,c,d⟩:=this
    exact⟨cur,e,fz,a,b,c,.inr ⟨h1,h2.symm,d⟩⟩
  · rw[h]at h2
    have:=R.lam i
    rw[←h2]at this
    simp only[ObR]at this
    obtain⟨cur,e,fz,a,b,_,c,d⟩:=this
    exact⟨cur,e,fz,a,b,c,.inl ⟨rfl,h1,h2.symm,d⟩⟩
theorem Rel.takeOb {s s1:S}{μ μ1:Mu}{tm:Array Value}(R:Rel G L s μ tm w){lev i off:Nat}{cs:List LV}{x:LV}(hob:aE (μ++[s.lam]) lev i= .cells cs)(hx:cs[off]? =some x)
    (hfr:s1.fr=s.fr) (hp:s1.pushed=s.pushed) (hlen:s1.lam.length=s.lam.length) (hμlen:μ1.length=μ.length) (hH:μ1++[s1.lam]=bj (μ++[s.lam]) lev i (.cells (cs.set off (strip x)))):
    ∃cur e fz,w.heap[G.β lev i]? =some (.cells cur e fz)∧off<cur.size∧Rel G L s1 μ1 tm w∧
      (∀b,fI G w s1.fr tm (μ1++[s1.lam]) b→fI G w s.fr tm (μ++[s.lam]) b)∧
      ((lev=L∧LVR G w L s.lam.length x (cur.getD off undef))∨(lev<L∧LVR (G.below lev) w lev 0 x (cur.getD off undef)))∧
      (∀b,aH x (cur.getD off undef) b→(∀l,¬ay G w s1.fr tm (μ1++[s1.lam]) l b)∧(∀l j,aK (aE (μ1++[s1.lam]) l j)→G.β l j≠b)∧fI G w s.fr tm (μ++[s.lam]) b):=by
  obtain⟨cur,e,fz,hb,hu,hsz,hcase⟩:=Uu R hob
  have hoff:off<cs.length:=(List.getElem?_eq_some_iff.1 hx).1
  have hl:aK (aE (μ++[s.lam]) lev i):=by rw[hob];trivial
  have hown0: ∀k b,cF (cs.set off (strip x)) cur k b→k≠off∧ay G w s.fr tm (μ++[s.lam]) (.ob lev i k) b:=by
    intro k b ⟨y,hy,ho⟩
    by_cases hk:k=off
    · subst hk
      rw[List.getElem?_set_self hoff]at hy
      simp only[Option.some.injEq]at hy
      subst hy
      exact absurd ho i8
    · rw[List.getElem?_set_ne (by omega)]at hy
      refine⟨hk,?_⟩
      simp only[ay,hob,hy]
      exact⟨cur,e,fz,hb,ho⟩
  obtain⟨R1,_,hT,hO1,hO2,hlv⟩:=R.setOb (s1:=s1) (μ1:=μ1) (o':= .cells (cs.set off (strip x))) hl hb (cur':=cur) rfl hfr hp hlen hμlen hH
    (fun G' w' hle hG hw => by
      subst hG
      rw[setRow_self w _ cur e fz hb]at hw
      subst hw
      refine⟨fun hL=> ?_,fun hL=> ?_⟩
      · rcases hcase with⟨_,_,h2,h3⟩|⟨h1,_⟩
        · have:=R.lam i
          rw[h2]at this
          simp only[ObR]at this ⊢
          obtain⟨cur',e',fz',hb',hu',hO',hs',hr'⟩:=this
          rw[hL]
          refine⟨cur',e',fz',hb',hu',hO',by simpa using hs',fun j y hy=> ?_⟩
          by_cases hj:j=off
          · subst hj
            rw[List.getElem?_set_self hoff]at hy
            simp only[Option.some.injEq]at hy
            subst hy
            exact jV (hr' j x hx)
          · rw[List.getElem?_set_ne (by omega)]at hy
            exact hr' j y hy
        · omega
      · rcases hcase with⟨h1,_⟩|⟨_,h2,h3⟩
        · omega
        · have:=R.mu lev i hL
          rw[h2]at this
          simp only[ObR]at this ⊢
          obtain⟨cur',e',fz',hb',hu',hO',hs',hr'⟩:=this
          refine⟨cur',e',fz',hb',hu',hO',by simpa using hs',fun j y hy=> ?_⟩
          by_cases hj:j=off
          · subst hj
            rw[List.getElem?_set_self hoff]at hy
            simp only[Option.some.injEq]at hy
            subst hy
            exact jV (hr' j x hx)
          · rw[List.getElem?_set_ne (by omega)]at hy
            exact hr' j y hy)
    (fun cs' k b he ho => by
      injection he with he
      subst he
      exact .inl (hown0 k b ho).2)
  rw[setRow_self w _ cur e fz hb]at R1 hT hO1 hO2
  refine⟨cur,e,fz,hb,by omega,R1,fun b hb=> ?_,?_,fun b ho=> ?_⟩
  · rcases hT b hb with h|⟨cs',k,he,ho⟩
    · exact h
    · injection he with he
      subst he
      exact .inl ⟨_,(hown0 k b ho).2⟩
  · rcases hcase with⟨h1,_,_,h3⟩|⟨h1,_,h3⟩
    · exact .inl ⟨h1,h3 off x hx⟩
    · exact .inr ⟨h1,h3 off x hx⟩
  · have hown:ay G w s.fr tm (μ++[s.lam]) (.ob lev i off) b:=by
      simp only[ay,hob,hx]
      exact⟨cur,e,fz,hb,ho⟩
    refine⟨fun l h=> ?_,fun l j h=>R.apart _ b l j hown (hlv l j h),.inl ⟨_,hown⟩⟩
    have hold:ay G w s.fr tm (μ++[s.lam]) l b:=by
      rcases hO1 l b h with h|⟨cs',k,he,ho',rfl⟩
      · exact h
      · injection he with he
        subst he
        exact(hown0 k b ho').2
    have hl:=R.own l _ b hold hown
    subst hl
    obtain⟨cs',he,ho'⟩:=hO2 off b h
    injection he with he
    subst he
    exact(hown0 off b ho').1 rfl
end
end Go.Abs
set_option linter.unusedVariables false
set_option linter.unusedSimpArgs false
namespace Go.Abs
open Go
section
variable {G:Gh}{w:World}{L:Nat}{P:Program}
theorem u3: ∀{cs:List LV} {l:List CV},jN cs=some l→l.length=cs.length∧ ∀(j:Nat) c,l[j]? =some c→ ∃x,cs[j]? =some x∧bP x=some c
 |[],l,h=>by simp only[jN,Option.some.injEq]at h;subst h;exact⟨rfl,fun j c hc=>by simp at hc⟩
 |x::r,l,h=>by
  simp only[jN]at h
  obtain⟨c,h1,h2⟩:=ac.1 h
  obtain⟨l',h3,h4⟩:=ac.1 h2
  simp only[Option.some.injEq]at h4
  subst h4
  obtain⟨e,hg⟩:=u3 h3
  refine⟨by simp[e],fun j c' hc=> ?_⟩
  cases j with
  |zero=>simp only[List.getElem?_cons_zero,Option.some.injEq]at hc;subst hc;exact⟨x,rfl,h1⟩
  |succ j=>simpa using hg j c' (by simpa using hc)
theorem CL_of {b:Nat}: ∀{cs:List CV} {off:Nat},(∀(j:Nat) c,cs[j]? =some c→ ∃v,w.cell? ⟨b,off+j,none⟩=some v∧off+j<G.O b∧VR G w c v)→CL G w b off cs
 |[],off,_=>by simp[CL]
 |c::r,off,h=>by
  simp only[CL]
  refine⟨by simpa using h 0 c rfl,CL_of fun j c' hc=> ?_⟩
  have:=h (j+1) c' (by simpa using hc)
  rwa [show off+(j+1)=off+1+j by omega]at this
theorem mz {l:Lam}{i:Nat}{o:Ob}(h:i<l.length)(j:Nat):aG (l.set i o) j=if j=i then o else aG l j:=by
 simp only[aG]
 by_cases e:j=i
 ·subst e;rw[List.getElem?_set_self h];simp
 ·rw[List.getElem?_set_ne (by omega)];simp[e]
theorem cell_of_heap {b j:Nat}{cur:Array Value}{e:TypeId}{fz:Nat×Nat}(h:w.heap[b]? =some (.cells cur e fz))(hj:j<cur.size):w.cell? ⟨b,j,none⟩=some (cur.getD j undef):=by
 rw[cell_of_row w b j cur e fz h]
 simp[Array.getD,hj]
theorem Rel.freezeOb {s:S}{μ:Mu}{tm:Array Value}(R:Rel G L s μ tm w){i t n:Nat}{x:LV}(hl:aK (aG s.lam i))
  (hx:Le G w (G.setO (G.β L i) n) w→LVR (G.setO (G.β L i) n) w L s.lam.length x (tm.getD t undef)) (hno: ∀b,¬aH x (tm.getD t undef) b):
  let G':=G.setO (G.β L i) n
  let s':S:={s with fr:=upd s.fr t x,lam:=s.lam.set i .dead}
  Rel G' L s' μ tm w∧Ext L (aB G w s μ tm) G w G' w (aB G' w s' μ tm):=by
 intro G' s'
 have hi:=ia hl
 have e0: ∀j,aE (μ++[s.lam]) L j=aG s.lam j:=fun j=>by rw[←R.lev];exact br
 have e1: ∀j,aE (μ++[s'.lam]) L j=aG s'.lam j:=fun j=>by rw[←R.lev];exact br
 have hl':aK (aE (μ++[s.lam]) L i):=by rw[e0];exact hl
 have hOb:G.O (G.β L i)=0:=by
  have:=R.lam i
  revert this hl
  cases aG s.lam i with
  |dead=>intro h;exact h.elim
  |cells cs=>intro _ h;simp only[ObR]at h;obtain⟨_,_,_,_,_,h,_⟩:=h;exact h
  |arr k cs=>intro _ h;simp only[ObR]at h;obtain⟨_,_,_,_,_,_,h,_⟩:=h;exact h
  |map ks vs=>intro _ h;simp only[ObR]at h;obtain⟨_,_,_,h,_⟩:=h;exact h
 have hle:Le G w G' w:=by
  refine⟨fun b es clk h hb=>⟨?_,hb⟩,fun _ _ h=>⟨h,rfl,rfl⟩,fun b off v h hc=>⟨?_,hc⟩,fun b cur e fz h=>⟨cur,fz,h,rfl⟩⟩
  ·by_cases hbb:b=G.β L i
   ·subst hbb;omega
   ·rw[bS hbb];exact h
  by_cases hbb:b=G.β L i
  ·subst hbb;omega
  ·rw[bS hbb];exact h
 have hset: ∀j,aG s'.lam j=if j=i then .dead else aG s.lam j:=fun j=>mz hi j
 have hlen:s'.lam.length=s.lam.length:=by simp[s']
 have hlive: ∀l j,aK (aE (μ++[s'.lam]) l j)→aK (aE (μ++[s.lam]) l j)∧aE (μ++[s'.lam]) l j=aE (μ++[s.lam]) l j∧ ¬(l=L∧j=i):=by
  intro l j h
  rcases cG (s:=s') R.lev h with⟨h1,h2⟩|⟨rfl,h1,h2⟩
  ·have:aE (μ++[s.lam]) l j=aU μ l j:=ba (by rw[R.lev];exact h1)
   rw[h2]at h ⊢
   exact⟨by rw[this];exact h,this.symm,by omega⟩
  ·rw[h2,hset]at h
   rw[h2,hset,e0]
   split at h
   ·exact h.elim
   ·rename_i hj
    rw[if_neg hj]
    exact⟨h,rfl,by simpa using hj⟩
 have hO: ∀l j,aK (aE (μ++[s.lam]) l j)→ ¬(l=L∧j=i)→G'.O (G.β l j)=G.O (G.β l j):=fun l j h hn=>bS fun e=>hn (R.inj l j L i h hl' e)
 have hOo: ∀l b,ay G w s.fr tm (μ++[s.lam]) l b→G'.O b=G.O b:=fun l b h=>bS fun e=>R.apart l b L i h hl' e.symm
 have hownAt: ∀l b,ay G' w s'.fr tm (μ++[s'.lam]) l b→ay G w s.fr tm (μ++[s.lam]) l b:=by
  intro l b h
  cases l with
  |fr u=>
   simp only[ay,s']at h ⊢
   by_cases hu:u=t
   ·subst hu;rw[fH]at h;exact absurd h (hno b)
   ·rw[eD _ _ hu]at h;exact h
  |ob l j k=>
   simp only[ay]at h ⊢
   split at h<;>try(exact h.elim)
   rename_i cs hcs
   obtain⟨_,h2,_⟩:=hlive l j (by rw[hcs];trivial)
   rw[←h2,hcs]
   exact h
 refine⟨⟨R.lev,fun u=> ?_,fun j=> ?_,fun l j hlt=> ?_,fun l j l' j' h h' e'=>R.inj l j l' j' (hlive l j h).1 (hlive l' j' h').1 e',fun l l' b h h'=>R.own l l' b (hownAt l b h) (hownAt l' b h'),fun l b l' j h h' e'=>R.apart l b l' j (hownAt l b h) (hlive l' j h').1 e',R.nlt,?_,R.ngt⟩,?_⟩
 ·rw[hlen]
  by_cases hu:u=t
  ·subst hu
   simp only[s',fH]
   exact hx hle
  ·simp only[s',eD _ _ hu]
   exact cZ hle (Nat.le_refl _) (fun _ _=>⟨rfl,rfl⟩) _ _ (fun b hb=>⟨rfl,hOo (.fr u) b hb⟩) (R.fr u)
 ·rw[hlen,hset]
  split
  ·trivial
  ·rename_i hj
   refine ci hle (Nat.le_refl _) (fun _ _=>⟨rfl,rfl⟩) (fun h=>⟨rfl,hO L j (by rw[e0];exact h) (by simpa using hj)⟩) (fun cs k x cur e fz ho hx hb b' hb'=>⟨rfl,hOo (.ob L j k) b' ?_⟩) (R.lam j)
   simp only[ay,e0,ho,hx]
   exact⟨cur,e,fz,hb,hb'⟩
 ·have e2:aE (μ++[s.lam]) l j=aU μ l j:=ba (by rw[R.lev];exact hlt)
  refine ci (hle.below l) (Nat.le_refl _) (fun _ h=>by omega) (fun h=>⟨rfl,hO l j (by rw[e2];exact h) (by omega)⟩) (fun cs k x cur e fz ho hx hb b' hb'=>⟨rfl,hOo (.ob l j k) b' ?_⟩) (R.mu l j hlt)
  simp only[ay,e2,ho,hx]
  exact⟨cur,e,fz,hb,hb'⟩
 ·rw[hlen];exact R.nL
 ·refine⟨hle,rfl,rfl,rfl,Nat.le_refl _,fun b hb hn=>⟨rfl,bS fun e=>hn (.inr ⟨L,i,hl',e.symm⟩)⟩,fun b hb=> .inl ?_,fun _ _=>⟨fun _=>⟨rfl,rfl⟩,rfl⟩⟩
  rcases hb with⟨l,hb⟩|⟨l,j,h,rfl⟩
  ·exact .inl ⟨l,hownAt l b hb⟩
  ·exact .inr ⟨l,j,(hlive l j h).1,rfl⟩
theorem Rel.freezeFr {s:S}{μ:Mu}{tm:Array Value}{t b n:Nat}{x:LV}(R:Rel G L s μ tm w)(hb:(aH (s.fr t) (tm.getD t undef) b∧G.O b=0)∨n=G.O b)
  (hx:Le G w (G.setO b n) w→LVR (G.setO b n) w L s.lam.length x (tm.getD t undef)) (hno: ∀b',¬aH x (tm.getD t undef) b'):
  Rel (G.setO b n) L {s with fr:=upd s.fr t x} μ tm w∧Ext L (aB G w s μ tm) G w (G.setO b n) w (aB (G.setO b n) w {s with fr:=upd s.fr t x} μ tm):=by
 have e0: ∀j,aE (μ++[s.lam]) L j=aG s.lam j:=fun j=>by rw[←R.lev];exact br
 have hset:n=G.O b→ ∀b',(G.setO b n).O b'=G.O b':=fun h b'=>by
  by_cases hbb:b'=b
  ·subst hbb;rw[cP,h]
  ·exact bS hbb
 have hle:Le G w (G.setO b n) w:=by
  refine⟨fun b1 es clk h hb1=>⟨?_,hb1⟩,fun _ _ h=>⟨h,rfl,rfl⟩,fun b1 off v h hc=>⟨?_,hc⟩,fun b1 cur e fz h=>⟨cur,fz,h,rfl⟩⟩
  ·by_cases hbb:b1=b
   ·subst hbb
    rcases hb with hb|hb
    ·omega
    ·rw[hset hb];exact h
   ·rw[bS hbb];exact h
  by_cases hbb:b1=b
  ·subst hbb
   rcases hb with hb|hb
   ·omega
   ·rw[hset hb];exact h
  ·rw[bS hbb];exact h
 have hO: ∀l j,aK (aE (μ++[s.lam]) l j)→(G.setO b n).O (G.β l j)=G.O (G.β l j):=fun l j h=>hb.elim (fun hb=>bS (R.apart (.fr t) b l j hb.1 h)) fun hb=>hset hb _
 have hOo: ∀l b',l≠ .fr t→ay G w s.fr tm (μ++[s.lam]) l b'→(G.setO b n).O b'=G.O b':=fun l b' hl h=>hb.elim (fun hb=>bS fun e=>by subst e;exact hl (R.own l (.fr t) b' h hb.1)) fun hb=>hset hb _
 have hownAt: ∀l b',ay (G.setO b n) w (upd s.fr t x) tm (μ++[s.lam]) l b'→ay G w s.fr tm (μ++[s.lam]) l b':=by
  intro l b' h
  cases l with
  |fr u=>
   simp only[ay]at h ⊢
   by_cases hu:u=t
   ·subst hu;rw[fH]at h;exact absurd h (hno b')
   ·rw[eD _ _ hu]at h;exact h
  |ob l j k=>exact h
 refine⟨⟨R.lev,fun u=> ?_,fun j=> ?_,fun l j hlt=> ?_,R.inj,fun l l' b' h h'=>R.own l l' b' (hownAt l b' h) (hownAt l' b' h'),fun l b' l' j h h' e'=>R.apart l b' l' j (hownAt l b' h) h' e',R.nlt,R.nL,R.ngt⟩,?_⟩
 ·by_cases hu:u=t
  ·subst hu
   simp only[fH]
   exact hx hle
  ·simp only[eD _ _ hu]
   exact cZ hle (Nat.le_refl _) (fun _ _=>⟨rfl,rfl⟩) _ _ (fun b' hb'=>⟨rfl,hOo (.fr u) b' (by simpa using hu) hb'⟩) (R.fr u)
 ·refine ci hle (Nat.le_refl _) (fun _ _=>⟨rfl,rfl⟩) (fun h=>⟨rfl,hO L j (by rw[e0];exact h)⟩) (fun cs k x cur e fz ho hx hb1 b' hb'=>⟨rfl,hOo (.ob L j k) b' (by simp) ?_⟩) (R.lam j)
  simp only[ay,e0,ho,hx]
  exact⟨cur,e,fz,hb1,hb'⟩
 ·have e2:aE (μ++[s.lam]) l j=aU μ l j:=ba (by rw[R.lev];exact hlt)
  refine ci (hle.below l) (Nat.le_refl _) (fun _ h=>by omega) (fun h=>⟨rfl,hO l j (by rw[e2];exact h)⟩) (fun cs k x cur e fz ho hx hb1 b' hb'=>⟨rfl,hOo (.ob l j k) b' (by simp) ?_⟩) (R.mu l j hlt)
  simp only[ay,e2,ho,hx]
  exact⟨cur,e,fz,hb1,hb'⟩
 ·refine⟨hle,rfl,rfl,rfl,Nat.le_refl _,fun b' hb1 hn=>⟨rfl,hb.elim (fun hb=>bS fun e=>hn (.inl ⟨.fr t,by subst e;exact hb.1⟩)) fun hb=>hset hb _⟩,fun b' hb1=> .inl ?_,fun _ _=>⟨fun _=>⟨rfl,rfl⟩,rfl⟩⟩
  rcases hb1 with⟨l,hb1⟩|⟨l,j,h,rfl⟩
  ·exact .inl ⟨l,hownAt l b' hb1⟩
  ·exact .inr ⟨l,j,h,rfl⟩
theorem Cq {b n:Nat}{cur:Array Value}{e:TypeId}{fz:Nat×Nat}(hb:w.heap[b]? =some (.cells cur e fz))(hO:G.O b=n)(hn:n≤cur.size): ∀(off:Nat) (xs:List Value),off+xs.length≤n→
  (∀(j:Nat) x,xs[j]? =some x→cur.getD (off+j) undef=x)→EL G w b 1 off (xs.map .v)
 |off,[],_,_=>by simp[EL]
 |off,x::r,hl,h=>by
  simp only[List.length_cons]at hl
  simp only[List.map_cons,EL,VR]
  refine⟨⟨cur.getD off undef,cell_of_heap hb (by omega),by omega,by simpa using h 0 x rfl⟩,Cq hb hO hn (off+1) r (by omega) fun j y hy=> ?_⟩
  have:=h (j+1) y (by simpa using hy)
  rw[show off+(j+1)=off+1+j by omega]at this
  exact this
theorem BP {t:Nat}{s s':S}{μ:Mu}{tm:Array Value}(h:Al t s=some s')(R:Rel G L s μ tm w):
  ∃G',Rel G' L s' μ tm w∧Ext L (aB G w s μ tm) G w G' w (aB G' w s' μ tm):=by
 unfold Al at h
 split at h
 rotate_left
 ·rename_i i hfr
  split at h<;>try(simp at h;done)
  rename_i ks vs hob'
  simp only[Option.some.injEq]at h
  subst h
  have hob:=R.lam i
  rw[hob']at hob
  simp only[ObR]at hob
  obtain⟨es,clk,hb,hO,hk,hr⟩:=hob
  have hv:=R.fr t
  rw[hfr]at hv
  simp only[LVR]at hv
  refine⟨_,R.freezeOb (n:=1) (by rw[hob'];trivial) (fun hle=> ?_) (fun b hb=>by simp[aH]at hb)⟩
  rw[hv.2]
  simp only[LVR,VR]
  exact⟨_,es,clk,rfl,hb,by rw[cP];omega,hk,hJ hle vs _ hr⟩
 ·rename_i xs hfr
  simp only[Option.some.injEq]at h
  subst h
  have hv:=R.fr t
  rw[hfr]at hv
  simp only[LVR]at hv
  rcases hv with⟨h1,h2⟩|⟨b,cap,cur,e,hv,hb,h1,h2,h3,h4,h5⟩
  ·subst h1
   refine⟨_,R.freezeFr (n:=G.O 0) (b:=0) (.inr rfl) (fun hle=> ?_) (fun b hb=>by simp[aH]at hb)⟩
   rw[h2]
   simp only[LVR]
   exact Na
  refine⟨_,R.freezeFr (n:=xs.length) (b:=b) (.inl ⟨by rw[hfr,hv];simp[aH],h4⟩) (fun hle=> ?_) (fun b hb=>by simp[aH]at hb)⟩
  rw[hv]
  simp only[LVR,VR]
  refine⟨_,_,_,rfl,by simp,h1,.inr ⟨b,0,1,rfl,fun x hx=> ?_,Cq hb (cP ..) (by omega) 0 xs (by omega) (fun j x hx=>by simpa using h5 j x hx)⟩⟩
  obtain⟨y,_,rfl⟩:=List.mem_map.1 hx
  rfl
 ·simp at h
 rename_i i off hfr
 split at h<;>try(simp at h;done)
 rename_i h0
 simp only[decide_eq_true_eq]at h0
 subst h0
 split at h<;>try(simp at h;done)
 rename_i cs hcs
 obtain⟨l,hl,h⟩:=ac.1 h
 simp only[Option.some.injEq]at h
 subst h
 have hob:=R.lam i
 rw[hcs]at hob
 simp only[ObR]at hob
 obtain⟨cur,e,fz,hb,hu,hO,hsz,hr⟩:=hob
 have hv:=R.fr t
 rw[hfr]at hv
 simp only[LVR]at hv
 obtain⟨e1,hg⟩:=u3 hl
 refine⟨_,R.freezeOb (n:=cur.size) (by rw[hcs];trivial) (fun hle=> ?_) (fun b hb=>by simp[aH]at hb)⟩
 rw[hv.2]
 simp only[LVR,VR]
 refine⟨_,_,rfl,CL_of fun j c hc=> ?_⟩
 obtain⟨x,hx,hgc⟩:=hg j c hc
 have hj:j<cur.size:=by
  have:=(List.getElem?_eq_some_iff.1 hx).1
  omega
 refine⟨cur.getD j undef,?_,?_,bi hle c _ (ew hgc (hr j x hx))⟩
 ·rw[Nat.zero_add];exact cell_of_heap hb hj
 ·rw[cP];omega
theorem sc: ∀{ts:List Nat} {s s':S} {μ:Mu} {tm:Array Value} {G:Gh},p7 ts s=some s'→Rel G L s μ tm w→
  ∃G',Rel G' L s' μ tm w∧Ext L (aB G w s μ tm) G w G' w (aB G' w s' μ tm)
 |[],s,s',μ,tm,G,h,R=>by
  simp only[p7,Option.some.injEq]at h
  subst h
  exact⟨G,R,Ext.refl G w fun _ h=>h⟩
 |t::r,s,s',μ,tm,G,h,R=>by
  simp only[p7]at h
  obtain⟨s1,h1,h2⟩:=ac.1 h
  obtain⟨G1,R1,E1⟩:=BP h1 R
  obtain⟨G2,R2,E2⟩:=sc h2 R1
  exact⟨G2,R2,E1.trans E2⟩
theorem yp {isA:Bool}{sz:Nat}: ∀(n:Nat) (cs:List CV),(gI isA sz n cs).length=n
 |0,cs=>rfl
 |n+1,cs=>by simp[gI,yp n]
theorem wx: ∀(n:Nat) {cs:List CV},de cs=true→de (cs.drop n)=true
 |0,cs,h=>h
 |n+1,[],h=>rfl
 |n+1,c::r,h=>by
  simp only[de]at h
  split at h<;>try(simp at h;done)
  simpa using wx n h
theorem AX {isA:Bool}{sz b:Nat}: ∀(n off:Nat) (cs:List CV),(isA=true∨(sz=1∧de cs=true))→n*sz≤cs.length→CL G w b off cs→
  (∀x∈gI isA sz n cs,x.cells.length=sz)∧EL G w b sz off (gI isA sz n cs)
 |0,off,cs,_,_,_=>by simp[gI,EL]
 |n+1,off,cs,hz,hl,h=>by
  have hl':n*sz+sz≤cs.length:=by rw[Nat.add_mul]at hl;omega
  obtain⟨h1,h2⟩:=AX n (off+sz) (cs.drop sz) (hz.imp id fun hz=>⟨hz.1,wx sz hz.2⟩) (by simp only[List.length_drop];omega) (pz sz h)
  cases isA with
  |true=>
   simp only[gI,List.mem_cons,forall_eq_or_imp,EL]
   refine⟨⟨?_,h1⟩,zQ sz h,h2⟩
   simp only[CV.cells,List.length_take];omega
  |false=>
   obtain⟨hz1,hs⟩:sz=1∧de cs=true:=by rcases hz with hz|hz<;>simp_all
   subst hz1
   cases cs with
   |nil=>simp at hl'
   |cons c r=>
    simp only[gI,List.headD_cons,List.mem_cons,forall_eq_or_imp]
    simp only[de]at hs
    split at hs<;>try(simp at hs;done)
    rename_i hs1
    simp only[CL]at h
    cases c<;>simp only[dc,Bool.false_eq_true]at hs1<;>simp only[EL]<;>exact⟨⟨rfl,h1⟩,h.1,h2⟩
theorem yC {t:Nat}{e:TypeId}{s s':S}{μ:Mu}{tm:Array Value}(h:j6 P t e s=some s')(R:Rel G L s μ tm w):
  ∃G',Rel G' L s' μ tm w∧Ext L (aB G w s μ tm) G w G' w (aB G' w s' μ tm):=by
 unfold j6 at h
 split at h<;>try(simp at h;done)
 rename_i i off len hfr
 split at h<;>try(simp at h;done)
 rename_i h0
 simp only[decide_eq_true_eq]at h0
 subst h0
 split at h<;>try(simp at h;done)
 rename_i sz cs hcs
 obtain⟨n,hn,h⟩:=ac.1 h
 obtain⟨hsz,h⟩:=aF.1 h
 obtain⟨hg,h⟩:=aF.1 h
 simp only[Option.some.injEq]at h
 subst h
 have hsz:=Nat.eq_of_beq_eq_true hsz
 subst hsz
 simp only[Bool.and_eq_true,Bool.or_eq_true]at hg
 obtain⟨hg1,hg2⟩:=hg
 have hg2:=Nat.le_of_ble_eq_true hg2
 have hob:=R.lam i
 rw[hcs]at hob
 simp only[ObR]at hob
 obtain⟨hk,cur,e',fz,hb,hu,hO,hle,hr⟩:=hob
 have hv:=R.fr t
 rw[hfr]at hv
 simp only[LVR]at hv
 obtain⟨hi,cap,cur2,e2,fz2,hv1,hv2,hv3,hv4,hv5⟩:=hv
 refine⟨_,R.freezeOb (n:=cur.size) (by rw[hcs];trivial) (fun hle'=> ?_) (fun b hb=>by simp[aH]at hb)⟩
 rw[hv1]
 simp only[LVR,VR]
 have hcl:CL (G.setO (G.β L i) cur.size) w (G.β L i) 0 cs:=CL_of fun j c hc=>by
  have hj:j<cur.size:=by
   have:=(List.getElem?_eq_some_iff.1 hc).1
   omega
  exact⟨cur.getD j undef,by rw[Nat.zero_add];exact cell_of_heap hb hj,by rw[cP];omega,bi hle' c _ (hr j c hc)⟩
 obtain ⟨k1, k2⟩ := AX (isA := bD P e) (sz := sz) len 0 cs (by
  rcases hg1 with h|⟨h1,h2⟩
  ·exact .inl h
  ·exact .inr ⟨Nat.eq_of_beq_eq_true h1,h2⟩) hg2 hcl
 exact⟨_,len,cap,rfl,(yp len cs).symm,hv2,.inr ⟨G.β L i,0,sz,rfl,k1,k2⟩⟩
theorem nP: ∀{ts:List (Nat×TypeId)} {s s':S} {μ:Mu} {tm:Array Value} {G:Gh},jg P ts s=some s'→Rel G L s μ tm w→
  ∃G',Rel G' L s' μ tm w∧Ext L (aB G w s μ tm) G w G' w (aB G' w s' μ tm)
 |[],s,s',μ,tm,G,h,R=>by
  simp only[jg,Option.some.injEq]at h
  subst h
  exact⟨G,R,Ext.refl G w fun _ h=>h⟩
 |t::r,s,s',μ,tm,G,h,R=>by
  simp only[jg]at h
  obtain⟨s1,h1,h2⟩:=ac.1 h
  obtain⟨G1,R1,E1⟩:=yC h1 R
  obtain⟨G2,R2,E2⟩:=nP h2 R1
  exact⟨G2,R2,E1.trans E2⟩
end
end Go.Abs
set_option linter.unusedVariables false
set_option linter.unusedSimpArgs false
namespace Go.Abs
open Go
def KOK {α:Type}(L:Nat)(G:Gh)(w:World)(s:S)(μ:Mu)(a:Act)(dst:Option Tmp)(k:LV→S→Mu→Option α)(r:α)(K:Act→World→Prop):Prop:=
 ∀v s' μ' cv w' G',k v s' μ'=some r→Rel G' L (s'.put dst v) μ' (a.put dst cv).tmps w'→
  Ext L (aB G w s μ a.tmps) G w G' w' (aB G' w' (s'.put dst v) μ' (a.put dst cv).tmps)→K (a.put dst cv) w'
def POK {α:Type}(L:Nat)(G:Gh)(w:World)(s:S)(μ:Mu)(a:Act)(p:CV→S→Mu→Option α)(r:α)(Q:Exit→Act→World→Prop):Prop:=
 ∀v s' μ' pv w' G',p v s' μ'=some r→Rel G' L s' μ' a.tmps w'→VR G' w' v pv→
  Ext L (aB G w s μ a.tmps) G w G' w' (aB G' w' s' μ' a.tmps)→Q (.panic [{v:=pv,recovered:=false}]) a w'
section
variable {P:Program}{α:Type}{L:Nat}{G:Gh}{w:World}{s:S}{μ:Mu}{a:Act}{o:Oper}{k:LV→S→Mu→Option α}{p:CV→S→Mu→Option α}{r:α}{K:Act→World→Prop}{Q:Exit→Act→World→Prop}
theorem cm {cv:Value}{w':World}(h:(execOp a.eval o).run P w= .ok (.value cv) w')(hK:K (a.put o.dst cv) w'):o.wp P a w K Q:=by
 unfold Oper.wp;rw[h];exact hK
theorem ni {w':World}(h:(execOp a.eval o).run P w= .ok .skip w')(hK:K (a.put o.dst undef) w'):o.wp P a w K Q:=by
 unfold Oper.wp;rw[h];exact hK
theorem If {v:Value}{w':World}(h:(execOp a.eval o).run P w= .halt (.panic v) w')(hQ:Q (.panic [{v,recovered:=false}]) a w'):o.wp P a w K Q:=by
 unfold Oper.wp;rw[h];exact hQ
theorem dl (R:Rel G L s μ a.tmps w)(hd: ∀d,o.dst=some d→d<a.tmps.size)(hk:KOK L G w s μ a o.dst k r K){ts:List Nat}{v:LV}{cv:Value}
  (h:k v (ab ts s) μ=some r) (hrun:(execOp a.eval o).run P w= .ok (.value cv) w) (hv:LVR G w L s.lam.length v cv)
  (ho: ∀b,aH v cv b→ ∃t,t∈ts∧aH (s.fr t) (a.tmps.getD t undef) b):o.wp P a w K Q:=by
 obtain⟨h1,h2⟩:=Qk (dst:=o.dst) R hv ho hd
 exact cm hrun (hk v _ μ cv w G h h1 h2)
theorem cu (R:Rel G L s μ a.tmps w)(hd: ∀d,o.dst=some d→d<a.tmps.size)(hk:KOK L G w s μ a o.dst k r K){ts:List Nat}{c:CV}
  (h:k (.cv c) (ab ts s) μ=some r) (hrun: ∃cv,(execOp a.eval o).run P w= .ok (.value cv) w∧VR G w c cv):o.wp P a w K Q:=by
 obtain⟨cv,h1,h2⟩:=hrun
 exact dl R hd hk h h1 (by simpa[LVR]using h2) (fun b hb=>by simp[aH]at hb)
theorem Q9 {x:LV}{v:Value}{n:Int}{t ty:TypeId}(h:Lk P t x=some n)(hv:LVR G w L s.lam.length x v):(Builtin.len_ #[t] ty #[v]).run P w= .ok (.int .i64 n) w:=by
 unfold Lk at h
 split at h
 ·rename_i hu
  obtain⟨l,h1,h2⟩:=ac.1 h
  simp only[Option.some.injEq]at h2
  rw[fX h1]at hv
  simp only[LVR,VR]at hv
  subst hv
  have e: ∀b:ByteArray,(Builtin.len_ #[t] ty #[.string b]).run P w= .ok (goInt (b.size:Nat)) w:=fun b=>by simp[Builtin.len_,run_underlying hu]
  rw[e,←h2]
  rfl
 ·rename_i e hu
  unfold S7 at h
  have key: ∀A m c,v= .slice A m c→(m:Int)=n→(Builtin.len_ #[t] ty #[v]).run P w= .ok (.int .i64 n) w:=by
   intro A m c e em
   subst e
   simp[Builtin.len_,run_underlying hu,goInt,em]
  have key2: ∀xs,VR G w (.sl xs) v→(xs.length:Int)=n→(Builtin.len_ #[t] ty #[v]).run P w= .ok (.int .i64 n) w:=by
   intro xs hx e
   simp only[VR]at hx
   obtain⟨A,len,cap,e1,e2,_⟩:=hx
   exact key A len cap e1 (by rw[e2];exact e)
  split at h<;>simp only[Option.some.injEq,reduceCtorEq]at h
  ·simp only[LVR]at hv;exact key2 _ hv h
  ·simp only[LVR,VR]at hv;exact key none 0 0 hv h
  ·simp only[LVR]at hv;exact key2 _ (g9 hv) h
  ·simp only[LVR]at hv
   obtain⟨_,cap,cur,e,fz,e1,_⟩:=hv
   exact key _ _ cap e1 h
  ·simp only[LVR,VR]at hv
   obtain⟨_,cap,cur,e,fz,e1,_⟩:=hv
   exact key _ _ cap e1 h
  ·simp only[LVR]at hv
   obtain⟨A,cap,e1⟩:=hv
   exact key A _ cap e1 h
 ·simp at h
theorem yL {x:LV}{v:Value}(h:eU x=some false)(hv:LVR G w L s.lam.length x v)(x':Operand)(he:a.eval x'=v)(ho:o.op= .nilCheck x'):
  (execOp a.eval o).run P w= .ok (.value v) w:=by
 have: ∀u,(match u with| .pointer none| .nilIface| .nilFunc=>False| .func (.method _) _ _=>False|_=>True)→a.eval x'=u→(execOp a.eval o).run P w= .ok (.value u) w:=by
  intro u hu e
  simp only[execOp,ho,e]
  cases u with
  |pointer A=>cases A<;>first|exact hu.elim|rfl
  |func fn f c=>cases fn<;>first|exact hu.elim|rfl
  |nilIface=>exact hu.elim
  |nilFunc=>exact hu.elim
  |_=>rfl
 refine this v ?_ he
 unfold eU at h
 split at h<;>simp only[Option.some.injEq,reduceCtorEq,Bool.true_eq_false,Bool.false_eq_true]at h<;>simp only[LVR,VR]at hv
 ·obtain⟨_,_,rfl,_⟩:=hv;trivial
 ·obtain⟨_,rfl⟩:=hv;trivial
 ·obtain⟨_,rfl,_⟩:=hv;trivial
 ·obtain⟨_,rfl,_⟩:=hv;trivial
 ·obtain⟨_,rfl⟩:=hv;trivial
 ·obtain⟨_,rfl,_⟩:=hv;trivial
 ·obtain⟨_,rfl,_⟩:=hv;trivial
 ·obtain⟨_,rfl,_⟩:=hv;trivial
theorem MH {nl:Nat}{x:LV}{v:Value}(hv:LVR G w L nl x v):LVR G w L nl (qp x) v∧ ∀b,aH (qp x) v b→aH x v b:=by
 cases x with
 |tloc i t n=>
  simp only[LVR,qp]at hv ⊢
  exact⟨⟨hv.1,hv.2.1⟩,fun b hb=>by simp[aH]at hb⟩
 |cv c=>
  cases c with
  |tref lev i t n=>
   simp only[LVR,VR,qp,eM]at hv ⊢
   exact⟨⟨hv.1,hv.2.1⟩,fun b hb=>by simp[aH]at hb⟩
  |_=>exact⟨hv,fun _ hb=>hb⟩
 |_=>exact⟨hv,fun _ hb=>hb⟩
end
end Go.Abs
set_option linter.unusedVariables false
set_option linter.unusedSimpArgs false
namespace Go.Abs
open Go
section
variable {P:Program}{ρ:Rho}{α:Type}{L:Nat}{G:Gh}{w:World}{s:S}{μ:Mu}{a:Act}{o:Oper}{h:OpHint}{k:LV→S→Mu→Option α}{p:CV→S→Mu→Option α}{r:α}{K:Act→World→Prop}{Q:Exit→Act→World→Prop}
theorem cB {x:Sem Value}{v:Value}{w':World}(h:x.run P w= .ok v w'):(do pure (Next.value (←x)):Sem Next).run P w= .ok (.value v) w':=by
 rw[Sem.run_bind,h];rfl
theorem co (R:Rel G L s μ a.tmps w){x:Operand}{c:CV}(e:evA h s.fr x= .cv c):VR G w c (a.eval x):=by
 have:=(aX R h x).1
 rw[e]at this
 simpa[LVR]using this
theorem iO (R:Rel G L s μ a.tmps w){x:Operand}{k:IntKind}{n:Int}(e:evA h s.fr x= .cv (.v (.int k n))):a.eval x= .int k n:=by
 have:=co R e
 simpa[VR]using this
theorem iN (R:Rel G L s μ a.tmps w){x:Option Operand}{d:Int}{β:Type}{k:Int→Option β}{r:β}(hb:cT (evA h s.fr) x d k=some r):
  ∃n,lk (x.map a.eval) d n∧k n=some r:=by
 rcases FV hb with⟨rfl,h1⟩|⟨o,kd,n,rfl,h1,h2⟩
 ·exact⟨d,.inl ⟨rfl,rfl⟩,h1⟩
 ·exact⟨n,.inr ⟨kd,by simp[iO R h1]⟩,h2⟩
theorem NJ {x:Operand}(ho:o.op= .move x∨o.op= .assign x)(R:Rel G L s μ a.tmps w)(hd: ∀d,o.dst=some d→d<a.tmps.size)(hk:KOK L G w s μ a o.dst k r K)
  (hop:k (evA h s.fr x) (ab h.take s) μ=some r):o.wp P a w K Q:=
 dl R hd hk hop (by rcases ho with ho|ho<;>simp[execOp,ho]) (aX R h x).1 (aX R h x).2
theorem U7 {c x y:Operand}(ho:o.op= .pick c x y)(R:Rel G L s μ a.tmps w)(hd: ∀d,o.dst=some d→d<a.tmps.size)(hk:KOK L G w s μ a o.dst k r K)
  (hop:opt (aM (evA h s.fr c)) (fun t=>k (zn t (evA h s.fr x) (evA h s.fr y)) (ab h.take s) μ)=some r):o.wp P a w K Q:=by
 obtain⟨t,h1,h2⟩:=ac.1 hop
 have hc:=co R (fW h1)
 simp only[VR]at hc
 obtain⟨hv,hw⟩:=P1 (t:=t) (aX R h x).1 (aX R h y).1
 refine dl R hd hk h2 (cv:=if t=true then a.eval x else a.eval y) (by simp[execOp,ho,hc,asBool]) hv fun b hb=> ?_
 rcases hw b hb with hb|hb
 ·exact(aX R h x).2 b hb
 ·exact(aX R h y).2 b hb
theorem TA {t:TypeId}{parts:Array (Nat×Operand)}(ho:o.op= .build t parts)(R:Rel G L s μ a.tmps w)(hd: ∀d,o.dst=some d→d<a.tmps.size)(hk:KOK L G w s μ a o.dst k r K)
  (hop:ym P t (evA h s.fr) parts.toList (fun c=>k (.cv c) (ab h.take s) μ)=some r):o.wp P a w K Q:=by
 rw[oP]at hop
 obtain⟨c,h2,h4⟩:=ac.1 hop
 obtain⟨ps,h1,h3⟩:=KU h2
 refine cu R hd hk h4 ?_
 have hp:=pt R h h1
 unfold yl at h3
 obtain⟨z,hz,h3⟩:=ac.1 h3
 obtain⟨zv,i,_,_,hzr,hzl⟩:=iv (G:=G) (w:=w) hz
 have hparts:(parts.map fun q=>(q.1,a.eval q.2)).toList=parts.toList.map fun q=>(q.1,a.eval q.2):=by simp
 split at h3
 ·rename_i fs hu
  obtain⟨pl,hpl,h3⟩:=ac.1 h3
  obtain⟨cs,hf,h3⟩:=ac.1 h3
  simp only[Option.some.injEq]at h3
  subst h3
  obtain⟨b,hb,hr,_⟩:=rn hp hzl hf
  have hmap: ∀(l:List Field) (pl:List (Nat×Nat)),gp P l=some pl→(l.mapM fun f=>(do pure (f.offset,←sizeOf f.type):Sem (Nat×Nat))).run P w= .ok pl w:=by
   intro l
   induction l with
   |nil=>intro pl h;simp only[gp,Option.some.injEq]at h;subst h;simp
   |cons f l ih=>
    intro pl h
    simp only[gp]at h
    obtain⟨n,hn,h⟩:=ac.1 h
    obtain⟨q,hq,h⟩:=ac.1 h
    simp only[Option.some.injEq]at h
    subst h
    simp only[List.mapM_cons,Sem.run_bind,db hn,Result.andThen_ok,Sem.run_pure,ih q hq]
  have hm:=hmap fs.toList pl hpl
  have hm2:(fs.mapM fun f=>(do pure (f.offset,←sizeOf f.type):Sem (Nat×Nat))).run P w= .ok pl.toArray w:=by
   rw[Array.mapM_eq_mapM_toList,Sem.run_map,hm]
   rfl
  refine⟨.agg b,?_,by simp only[VR];exact⟨b,rfl,hr⟩⟩
  simp only[execOp,ho]
  refine cB ?_
  have hpe:(fun(x:Nat)=>(pl.toArray)[x]?)=fun(i:Nat)=>pl[i]? :=by funext i;simp
  simp only[Instr.build,Sem.run_bind,hzr,Result.andThen_ok,run_underlying hu,hm2,hparts,hpe,hb,Sem.run_pure]
 ·rename_i n e hu
  obtain⟨sz,hsz,h3⟩:=ac.1 h3
  obtain⟨cs,hf,h3⟩:=ac.1 h3
  simp only[Option.some.injEq]at h3
  subst h3
  obtain⟨b,hb,hr,_⟩:=rn hp hzl hf
  refine⟨.agg b,?_,by simp only[VR];exact⟨b,rfl,hr⟩⟩
  simp only[execOp,ho]
  refine cB ?_
  simp only[Instr.build,Sem.run_bind,hzr,Result.andThen_ok,run_underlying hu,db hsz,hparts,hb,Sem.run_pure]
 ·simp at h3
theorem KW {x:Operand}(ho:o.op= .nilCheck x)(R:Rel G L s μ a.tmps w)(hd: ∀d,o.dst=some d→d<a.tmps.size)(hk:KOK L G w s μ a o.dst k r K)
  (hop:opt (eU (evA h s.fr x)) (fun b=>ax (!b) (k (qp (evA h s.fr x)) (ab h.take s) μ))=some r):o.wp P a w K Q:=by
 obtain⟨b,h1,h2⟩:=ac.1 hop
 obtain⟨h3,h4⟩:=aF.1 h2
 have hb:b=false:=by simpa using h3
 subst hb
 obtain⟨h5,h6⟩:=MH (aX R h x).1
 exact dl R hd hk h4 (yL h1 (aX R h x).1 x rfl ho) h5 fun b hb=>(aX R h x).2 b (h6 b hb)
theorem Tz {op:BinOp}{t ty:TypeId}{x y:Operand}(ho:o.op= .binOp op t x y ty)(R:Rel G L s μ a.tmps w)(hd: ∀d,o.dst=some d→d<a.tmps.size)(hk:KOK L G w s μ a o.dst k r K)
  (hop:(pf P op t x y (evA h s.fr x) (evA h s.fr y) fun c=>k (.cv c) (ab h.take s) μ)=some r):o.wp P a w K Q:=by
 obtain⟨c,h1,h2⟩:=NC (fun _ e=>by subst e;rfl) (fun _ e=>by subst e;rfl) hop
 refine cu R hd hk h2 ?_
 obtain⟨cv,h3,h4⟩:=QK h1 (aX R h x).1 (aX R h y).1 (fun cc e=>by subst e;rfl) (fun cc e=>by subst e;rfl)
 refine⟨cv,?_,by subst h4;simp[VR]⟩
 simp only[execOp,ho]
 exact cB h3
theorem U8 {op:UnOp}{t:TypeId}{x:Operand}(ho:o.op= .unOp op t x)(R:Rel G L s μ a.tmps w)(hd: ∀d,o.dst=some d→d<a.tmps.size)(hk:KOK L G w s μ a o.dst k r K)
  (hop:opt (unA op (evA h s.fr x)) (fun c=>k (.cv c) (ab h.take s) μ)=some r):o.wp P a w K Q:=by
 obtain⟨c,h1,h2⟩:=ac.1 hop
 refine cu R hd hk h2 ?_
 obtain⟨cv,h3,h4⟩:=UQ (P:=P) h1 (aX R h x).1
 refine⟨cv,?_,by subst h4;simp[VR]⟩
 simp only[execOp,ho]
 exact cB h3
theorem yn {t:TypeId}{x:Operand}{d:TypeDesc}(ho:o.op= .makeInterface t x)(hu:P.underlying t=some d)(hni: ∀ms,d≠ .interface ms)(R:Rel G L s μ a.tmps w)(hd: ∀d,o.dst=some d→d<a.tmps.size)(hk:KOK L G w s μ a o.dst k r K)
  (hop:opt (bP (evA h s.fr x)) (fun c=>k (.cv (.iface t c)) (ab h.take s) μ)=some r):o.wp P a w K Q:=by
 obtain⟨c,h1,h2⟩:=ac.1 hop
 refine cu R hd hk h2 ⟨.iface t (a.eval x),?_,by simp only[VR];exact⟨_,rfl,ew h1 (aX R h x).1⟩⟩
 simp only[execOp,ho]
 refine cB ?_
 simp only[Instr.makeInterface,Sem.run_bind,run_underlying hu,Result.andThen_ok]
 cases d<;>first|exact absurd rfl (hni _)|rfl
theorem KV {f:FuncId}{first captured:Array Operand}(ho:o.op= .makeFunc (.func f) first captured)(hf:first.toList=[])(R:Rel G L s μ a.tmps w)(hd: ∀d,o.dst=some d→d<a.tmps.size)(hk:KOK L G w s μ a o.dst k r K)
  (hop:k (.lclo f (captured.toList.map fun x=>strip1 (evA h s.fr x))) (ab h.take s) μ=some r):o.wp P a w K Q:=by
 have hf':first= #[]:=by cases first;simp_all
 subst hf'
 refine dl R hd hk hop (cv:= .func (.func f) #[] (captured.map a.eval)) ?_ ?_ (fun b hb=>by simp[aH]at hb)
 ·simp only[execOp,ho];exact cB (by simp[Instr.makeFunc])
 ·simp only[LVR]
  refine⟨_,rfl,?_⟩
  rw[Array.toList_map]
  generalize captured.toList=l
  induction l with
  |nil=>simp[bT]
  |cons x l ih=>
   simp only[List.map_cons,bT]
   exact⟨_,_,rfl,(i7 (aX R h x).1).2,(i7 (aX R h x).1).1,ih⟩
theorem NH {x:Operand}{i:Nat}(ho:o.op= .extract x i)(R:Rel G L s μ a.tmps w)(hd: ∀d,o.dst=some d→d<a.tmps.size)(hk:KOK L G w s μ a o.dst k r K)
  (hop:opt (aT (evA h s.fr x)) (fun xs=>opt (xs[i]?) fun v=>k v (ab h.take s) μ)=some r):o.wp P a w K Q:=by
 obtain⟨xs,h1,h2⟩:=ac.1 hop
 obtain⟨v,h3,h4⟩:=ac.1 h2
 have hv:=(aX R h x).1
 rw[A6 h1]at hv
 simp only[LVR]at hv
 obtain⟨vs,e,hl⟩:=hv
 obtain⟨cv,h5,h6,h7⟩:=(qt hl).2 i v h3
 refine dl R hd hk h4 (cv:=cv) ?_ h6 (fun b hb=>absurd hb (nz h7))
 simp only[execOp,ho,e]
 refine cB ?_
 have h5':vs[i]? =some cv:=by simpa using h5
 simp[Instr.extract,h5']
theorem TD {x:Operand}{t:TypeId}{c:CV}(ho:o.op= .panic x)(R:Rel G L s μ a.tmps w)(hp:POK L G w s μ a p r Q)(he:evA h s.fr x= .cv (.iface t c))
  (hop:p (.iface t c) (ab h.take s) μ=some r):o.wp P a w K Q:=by
 obtain⟨R',hh⟩:=Rel.strips h.take R
 have hl:=aQ h.take s
 have hv:=co R he
 have hv':=hv
 simp only[VR]at hv'
 obtain⟨u,e,_⟩:=hv'
 refine If (v:=a.eval x) (w':=w) ?_ (hp _ _ μ _ w G hop R' hv (Ext.refl G w fun b hb=> ?_))
 ·rw[e];simp only[execOp,ho,e];rfl
 ·rcases hb with⟨l,hb⟩|hb
  ·exact .inl ⟨l,(hh l b (by rw[←hl.1];exact hb)).2⟩
  ·exact .inr (by rw[←hl.1];exact hb)
end
end Go.Abs
set_option linter.unusedVariables false
set_option linter.unusedSimpArgs false
namespace Go.Abs
open Go
theorem nw (G:Gh)(w:World)(lev:Nat):Le (G.below lev) w G w:=by
 refine⟨fun _ _ _ h hb=>⟨h,hb⟩,fun l i h=> ?_,fun _ _ _ h hc=>⟨h,hc⟩,fun b cur e fz h=>⟨cur,fz,h,rfl⟩⟩
 simp only[Gh.below]at h ⊢
 split at h
 ·refine⟨?_,?_,?_⟩<;>first|exact h|trivial|rfl
 ·omega
mutual
theorem ov {G:Gh}{w:World}{lev L nl:Nat}: ∀(x:LV) (v:Value),LVR (G.below lev) w lev 0 x v→LVR G w L nl x v
 | .cv c,v,h=>by simp only[LVR]at h ⊢; exact bi (nw G w lev) c v h
 | .osl xs,v,h=>by simp only[LVR]at h ⊢; exact kn (nw G w lev) (fun _ _ _ _=>⟨rfl,rfl⟩) h
 | .ost xs,v,h=>by simp only[LVR]at h ⊢; exact h
 | .stl n,v,h=>by simpa[LVR]using h
 | .loc i off,v,h=>by simp only[LVR]at h;omega
 | .lsl i off len,v,h=>by simp only[LVR]at h;omega
 | .mloc i,v,h=>by simp only[LVR]at h;omega
 | .tloc i t n,v,h=>by simp only[LVR]at h;omega
 | .lclo f caps,v,h=>by
  simp only[LVR]at h ⊢
  obtain⟨vs,e,hl⟩:=h
  exact⟨vs,e,qu caps _ hl⟩
 | .ltup xs,v,h=>by
  simp only[LVR]at h ⊢
  obtain⟨vs,e,hl⟩:=h
  exact⟨vs,e,qu xs _ hl⟩
theorem qu {G:Gh}{w:World}{lev L nl:Nat}: ∀(xs:List LV) (vs:List Value),bT (G.below lev) w lev 0 xs vs→bT G w L nl xs vs
 |[],vs,h=>by simpa[bT]using h
 |x::xs,vs,h=>by
  simp only[bT]at h ⊢
  obtain⟨v,r,e,h0,h1,h2⟩:=h
  exact⟨v,r,e,h0,ov x v h1,qu xs r h2⟩
end
section
variable {P:Program}{ρ:Rho}{α:Type}{L:Nat}{G:Gh}{w:World}{s:S}{μ:Mu}{a:Act}{o:Oper}{h:OpHint}{k:LV→S→Mu→Option α}{p:CV→S→Mu→Option α}{r:α}{K:Act→World→Prop}{Q:Exit→Act→World→Prop}
theorem La {cs:List LV}{l:List CV}{nl:Nat}{vs:List Value}(hl:jN cs=some l)(hlen:vs.length=cs.length)(hr: ∀j x,cs[j]? =some x→LVR G w L nl x (vs.getD j undef)):VRL G w l vs:=by
 obtain⟨e,hg⟩:=u3 hl
 refine e8 (by omega) fun j c v hc hv=> ?_
 obtain⟨x,hx,hgc⟩:=hg j c hc
 have:=hr j x hx
 rw[List.getD_eq_getElem?_getD,hv]at this
 exact ew hgc this
theorem oc {t:TypeId}{ob:Ob}{off nl b sz:Nat}{v:LV}(hob:ObR G w L nl b sz ob)(h:lH P t ob off=some v)(hd: ∃d,P.underlying t=some d):
  ∃cv,(Instr.loadAt t (.pointer (some ⟨b,off,none⟩))).run P w= .ok cv w∧LVR G w L nl v cv∧ ∀b',¬aH v cv b':=by
 unfold lH at h
 cases ob with
 |dead=>simp at h
 |map ks vs=>simp at h
 |cells cs=>
  simp only[ObR]at hob h
  obtain⟨cur,e,fz,hb,hu,hO,hsz,hr⟩:=hob
  have hcell: ∀(n:Nat) (hn:off+n≤cur.size) (j:Nat) v,((List.range n).map fun j=>cur.getD (off+j) undef)[j]? =some v→w.cell? ⟨b,off+j,none⟩=some v:=by
   intro n hn j v hv
   simp only[List.getElem?_map,Option.map_eq_some_iff]at hv
   obtain⟨q,hq,rfl⟩:=hv
   have hj:j<n:=by have:=(List.getElem?_eq_some_iff.1 hq).1;simpa using this
   have:q=j:=by rw[List.getElem?_range hj]at hq;exact(Option.some.inj hq).symm
   subst this
   exact cell_of_heap hb (by omega)
  split at h
  ·rename_i ha
   obtain⟨n,hn,h⟩:=ac.1 h
   split at h<;>try(simp at h;done)
   rename_i hle
   have hle:=Nat.le_of_ble_eq_true hle
   obtain⟨l,hl,h⟩:=ac.1 h
   simp only[Option.some.injEq]at h
   subst h
   refine⟨_,(iV (hcell n (by omega)) hd).1 ha n hn (by simp),?_,fun b' hb'=>by simp[aH]at hb'⟩
   simp only[LVR,VR]
   refine⟨_,rfl,La (L:=L) (nl:=nl) hl (by simp only[List.length_map,List.length_range,List.length_take,List.length_drop];omega) fun j x hx=> ?_⟩
   have hjn:j<n:=by
    have:=(List.getElem?_eq_some_iff.1 hx).1
    simp only[List.length_take]at this;omega
   rw[List.getElem?_take_of_lt hjn,List.getElem?_drop]at hx
   have:=hr (off+j) x hx
   rw[List.getD_eq_getElem?_getD]
   simpa[List.getElem?_map,List.getElem?_range hjn]using this
  ·rename_i ha
   split at h<;>simp only[Option.some.injEq,reduceCtorEq]at h
   rename_i x hx
   subst h
   have hj:off<cs.length:=(List.getElem?_eq_some_iff.1 hx).1
   refine⟨cur.getD off undef,(iV (vs:=[cur.getD off undef]) (fun j u hu=> ?_) hd).2 (by simpa using ha) _ rfl,jV (hr off x hx),fun b'=>i8⟩
   cases j with
   |zero=>simp only[List.getElem?_cons_zero,Option.some.injEq]at hu;subst hu;exact cell_of_heap hb (by omega)
   |succ j=>simp at hu
 |arr k cs=>
  simp only[ObR]at hob h
  obtain⟨hk,cur,e,fz,hb,hu,hO,hsz,hr⟩:=hob
  obtain⟨c,hc,h⟩:=ac.1 h
  simp only[Option.some.injEq]at h
  subst h
  have hO':Le G w (G.setO b cur.size) w→CL (G.setO b cur.size) w b 0 cs:=fun hle=>CL_of fun j c hc=>by
   have hj:j<cur.size:=by have:=(List.getElem?_eq_some_iff.1 hc).1;omega
   exact⟨cur.getD j undef,by rw[Nat.zero_add];exact cell_of_heap hb hj,by rw[cP];omega,bi hle c _ (hr j c hc)⟩
  unfold fE at hc
  split at hc
  ·rename_i ha
   obtain⟨n,hn,hc⟩:=ac.1 hc
   split at hc<;>simp only[Option.some.injEq,reduceCtorEq]at hc
   rename_i hle
   have hle:=Nat.le_of_ble_eq_true hle
   subst hc
   have hcell: ∀(j:Nat) v,((List.range n).map fun j=>cur.getD (off+j) undef)[j]? =some v→w.cell? ⟨b,off+j,none⟩=some v:=by
    intro j v hv
    simp only[List.getElem?_map,Option.map_eq_some_iff]at hv
    obtain⟨q,hq,rfl⟩:=hv
    have hj:j<n:=by have:=(List.getElem?_eq_some_iff.1 hq).1;simpa using this
    have:q=j:=by rw[List.getElem?_range hj]at hq;exact(Option.some.inj hq).symm
    subst this
    exact cell_of_heap hb (by omega)
   refine⟨_,(iV hcell hd).1 ha n hn (by simp),?_,fun b' hb'=>by simp[aH]at hb'⟩
   simp only[LVR,VR]
   refine⟨_,rfl,e8 (by simp only[List.length_map,List.length_range,List.length_take,List.length_drop];omega) fun j c v hc hv=> ?_⟩
   have hjn:j<n:=by
    have:=(List.getElem?_eq_some_iff.1 hc).1
    simp only[List.length_take]at this;omega
   rw[List.getElem?_take_of_lt hjn,List.getElem?_drop]at hc
   have:=hr (off+j) c hc
   have hv':v=cur.getD (off+j) undef:=by
    simp only[List.getElem?_map,List.getElem?_range hjn,Option.map_some,Option.some.injEq]at hv
    exact hv.symm
   rw[hv'];exact this
  ·rename_i ha
   have hj:off<cs.length:=(List.getElem?_eq_some_iff.1 hc).1
   refine⟨cur.getD off undef,(iV (vs:=[cur.getD off undef]) (fun j u hu=> ?_) hd).2 (by simpa using ha) _ rfl,by simp only[LVR];exact hr off c hc,fun b' hb'=>by simp[aH]at hb'⟩
   cases j with
   |zero=>simp only[List.getElem?_cons_zero,Option.some.injEq]at hu;subst hu;exact cell_of_heap hb (by omega)
   |succ j=>simp at hu
theorem fQ {t:TypeId}{cs:List CV}{off:Nat}{c:CV}(h:el P t cs off=some c):fE P t cs off=some c∧ ∃d,P.underlying t=some d:=by
 unfold el at h
 obtain⟨d,h1,h2⟩:=ac.1 h
 exact⟨h2,d,h1⟩
theorem TB {t:TypeId}{x:Operand}{f:Nat}(ho:o.op= .field t x f)(R:Rel G L s μ a.tmps w)(hd: ∀d,o.dst=some d→d<a.tmps.size)(hk:KOK L G w s μ a o.dst k r K)
  (hop:opt (DP P t (evA h s.fr x) f) (fun v=>k v (ab h.take s) μ)=some r):o.wp P a w K Q:=by
 obtain⟨v,h1,h2⟩:=ac.1 hop
 unfold DP at h1
 obtain⟨q,hq,h1⟩:=ac.1 h1
 obtain⟨cs,hc,h1⟩:=ac.1 h1
 obtain⟨c,ht,h1⟩:=ac.1 h1
 simp only[Option.some.injEq]at h1
 subst h1
 have hv:=co R (j7 hc)
 simp only[VR]at hv
 obtain⟨vs,e,hl⟩:=hv
 obtain⟨u,h3,h4⟩:=Oy hq (fQ ht).1 (fQ ht).2 hl
 refine cu R hd hk h2 ⟨u,?_,h4⟩
 simp only[execOp,ho,e]
 exact cB h3
theorem KZ {cs cs':List CV}{b off n:Nat}(h:CL G w b off cs)(hf:jw cs cs')(hn:n≤cs'.length):VR G w (.view (cs'.drop n)) (.pointer (some ⟨b,off+n,none⟩)):=by
 simp only[VR]
 exact⟨b,off+n,rfl,pz n (hf.CL h)⟩
theorem FX {t:TypeId}{x:Operand}{f:Nat}(ho:o.op= .fieldAddr t x f)(R:Rel G L s μ a.tmps w)(hd: ∀d,o.dst=some d→d<a.tmps.size)(hk:KOK L G w s μ a o.dst k r K)
  (hop:fa P h t (evA h s.fr x) f (fun v=>k v (ab h.take s) μ)=some r):o.wp P a w K Q:=by
 unfold fa at hop
 obtain⟨q,hq,hop⟩:=ac.1 hop
 have hrun: ∀b off,a.eval x= .pointer (some ⟨b,off,none⟩)→(execOp a.eval o).run P w= .ok (.value (.pointer (some ⟨b,off+q.1,none⟩))) w:=by
  intro b off e
  simp only[execOp,ho,e]
  exact cB (F8 hq b off)
 split at hop
 ·rename_i i off he
  have hv:=(aX R h x).1
  rw[he]at hv
  simp only[LVR]at hv
  exact dl R hd hk hop (hrun _ _ hv.2) (by simp only[LVR];exact⟨hv.1,trivial⟩) (fun b hb=>by simp[aH]at hb)
 ·rename_i c he
  split at hop
  ·obtain⟨cs,hc,hop⟩:=ac.1 hop
   obtain⟨cs',h1,hf⟩:=kG hop
   obtain⟨hle,h2⟩:=aF.1 h1
   have hv:=co R (rr hc)
   simp only[VR]at hv
   obtain⟨b,off,e,hl⟩:=hv
   exact cu R hd hk h2 ⟨_,hrun b off e,KZ hl hf (Nat.le_of_ble_eq_true hle)⟩
  ·obtain⟨q',hc,hop⟩:=ac.1 hop
   have hv:=co R (oT hc)
   simp only[VR]at hv
   exact cu R hd hk hop ⟨_,hrun _ _ hv.2,by simp only[VR];exact⟨hv.1,trivial⟩⟩
 ·simp at hop
theorem o2 {l:Lam}{i:Nat}{o:Ob}:bj (μ++[l]) μ.length i o=μ++[l.set i o]:=by
 simp[bj]
theorem mC {l:Lam}{lev i:Nat}{o:Ob}(h:lev<μ.length):bj (μ++[l]) lev i o=bj μ lev i o++[l]:=by
 unfold bj
 rw[List.getElem?_append_left h]
 cases μ[lev]? with
 |none=>rfl
 |some x=>simp[List.set_append_left _ _ h]
theorem wq {t:TypeId}{ob:Ob}{off:Nat}{q:LV×Ob}(h:gc P t ob off=some q):bD P t=false∧(∃d,P.underlying t=some d)∧ ∃cs,ob= .cells cs∧cs[off]? =some q.1∧q.2= .cells (cs.set off (strip q.1)):=by
 unfold gc at h
 obtain⟨d,hd,h⟩:=ac.1 h
 split at h<;>try(simp at h;done)
 rename_i ha
 cases ob with
 |dead=>simp at h
 |map ks vs=>simp at h
 |arr k cs=>simp at h
 |cells cs=>
  simp only at h
  cases hx:cs[off]? with
  |none=>simp[hx]at h
  |some x=>
   simp only[hx,Option.some.injEq]at h
   subst h
   exact⟨by simpa using ha,⟨d,hd⟩,cs,rfl,hx,rfl⟩
theorem D9 {t:TypeId}{b off:Nat}{cur:Array Value}{e:TypeId}{fz:Nat×Nat}(hb:w.heap[b]? =some (.cells cur e fz))(hoff:off<cur.size)(ha:bD P t=false)(hd: ∃d,P.underlying t=some d):
  (Instr.loadAt t (.pointer (some ⟨b,off,none⟩))).run P w= .ok (cur.getD off undef) w:=by
 refine(iV (vs:=[cur.getD off undef]) (fun j u hu=> ?_) hd).2 ha _ rfl
 cases j with
 |zero=>simp only[List.getElem?_cons_zero,Option.some.injEq]at hu;subst hu;exact cell_of_heap hb hoff
 |succ j=>simp at hu
theorem cH (R:Rel G L s μ a.tmps w)(ts:List Nat):Rel G L (ab ts s) μ a.tmps w∧Ext L (aB G w s μ a.tmps) G w G w (aB G w (ab ts s) μ a.tmps)∧
  (∀l b,ay G w (ab ts s).fr a.tmps (μ++[(ab ts s).lam]) l b→(∀t,t∈ts→l≠ .fr t)∧ay G w s.fr a.tmps (μ++[s.lam]) l b):=by
 obtain⟨R',h⟩:=Rel.strips ts R
 have hl:=aQ ts s
 refine⟨R',Ext.refl G w fun b hb=> ?_,fun l b hb=>h l b (by rw[←hl.1];exact hb)⟩
 rcases hb with⟨l,hb⟩|hb
 ·exact .inl ⟨l,(h l b (by rw[←hl.1];exact hb)).2⟩
 ·exact .inr (by rw[←hl.1];exact hb)
theorem U6 {t:TypeId}{x:Operand}(ho:o.op= .load t x)(R:Rel G L s μ a.tmps w)(hd: ∀d,o.dst=some d→d<a.tmps.size)(hk:KOK L G w s μ a o.dst k r K)
  (hop:gB P h t (evA h s.fr x) (ab h.take s) μ k=some r):o.wp P a w K Q:=by
 have hl:=aQ h.take s
 obtain⟨R1,E1,_⟩:=cH R h.take
 unfold gB at hop
 split at hop
 ·rename_i i off he
  have hv:=(aX R h x).1
  rw[he]at hv
  simp only[LVR]at hv
  split at hop<;>try(simp at hop;done)
  split at hop
  ·obtain⟨v,h1,h2⟩:=ac.1 hop
   unfold bv at h1
   obtain⟨d,h3,h1⟩:=ac.1 h1
   rw[hl.1]at h1
   obtain⟨cv,h4,h5,h6⟩:=oc (R.lam i) h1 ⟨d,h3⟩
   obtain⟨y,h7,h8⟩:=ss h2
   obtain⟨h9,h10⟩:=h8 G w L s.lam.length cv h5
   refine dl R hd hk h7 (cv:=cv) ?_ h9 (fun b hb=>absurd (h10 b hb) (h6 b))
   simp only[execOp,ho,hv.2]
   exact cB h4
  ·obtain⟨q,h1,h2⟩:=ac.1 hop
   obtain⟨ha,hu,cs,hob,hx,hq⟩:=wq h1
   have hob':aE (μ++[(ab h.take s).lam]) L i= .cells cs:=by rw[←R.lev];exact br.trans hob
   obtain⟨cur,e,fz,hb,hoff,R2,hT,hval,hown⟩:=R1.takeOb (s1:={ab h.take s with lam:=(ab h.take s).lam.set i q.2}) (μ1:=μ) hob' hx rfl rfl (by simp) rfl (by rw[hq,←R.lev];exact o2.symm)
   have hval':LVR G w L (ab h.take s).lam.length q.1 (cur.getD off undef):=by
    rcases hval with⟨_,hval⟩|⟨h0,_⟩
    ·exact hval
    ·omega
   obtain⟨R3,E3⟩:=cg (dst:=o.dst) (v:=q.1) (cv:=cur.getD off undef) R2 (E1.weaken (fun _ h=>h) (fun b hb=>hT b hb)) (by simpa using hval') (fun b hb=>⟨(hown b hb).1,(hown b hb).2.1,(E1.grow b (hown b hb).2.2)⟩) hd
   refine cm ?_ (hk _ _ μ _ w G h2 R3 E3)
   simp only[execOp,ho,hv.2]
   exact cB (D9 hb hoff ha hu)
 ·split at hop
  ·obtain⟨cs,hc,hop⟩:=ac.1 hop
   obtain⟨c,ht,hop⟩:=ac.1 hop
   have hv:=co R (rr hc)
   simp only[VR]at hv
   obtain⟨b,off,e,hcl⟩:=hv
   obtain⟨u,h1,h2⟩:=FG (fQ ht).1 (fQ ht).2 hcl
   refine cu R hd hk hop ⟨u,?_,h2⟩
   simp only[execOp,ho,e]
   exact cB h1
  ·obtain⟨q,hc,hop⟩:=ac.1 hop
   have hv:=co R (oT hc)
   simp only[VR]at hv
   split at hop
   ·obtain⟨v,h1,hop⟩:=ac.1 hop
    unfold bv at h1
    obtain⟨d,h3,h1⟩:=ac.1 h1
    have hq:q.1<L:=by
     rw[←R.lev]
     by_cases hq:q.1<μ.length
     ·exact hq
     ·simp only[aU]at h1
      rw[List.getElem?_eq_none (by omega)]at h1
      simp[lH]at h1
    obtain⟨cv,h4,h5,h6⟩:=oc (R.mu q.1 q.2.1 hq) h1 ⟨d,h3⟩
    obtain⟨y,h7,h8⟩:=fF hop
    obtain⟨h9,h10⟩:=h8 G w L s.lam.length cv (ov v cv h5)
    refine dl R hd hk h7 (cv:=cv) ?_ h9 (fun b hb=>absurd (h10 b hb) (h6 b))
    simp only[execOp,ho,hv.2]
    exact cB h4
   ·obtain⟨q',h1,hop⟩:=ac.1 hop
    obtain⟨ha,hu,cs,hob,hx,hq'⟩:=wq h1
    have hq:q.1<μ.length:=by
     by_cases hq:q.1<μ.length
     ·exact hq
     ·simp only[aU]at hob
      rw[List.getElem?_eq_none (by omega)]at hob
      cases hob
    have hob':aE (μ++[(ab h.take s).lam]) q.1 q.2.1= .cells cs:=(ba hq).trans hob
    obtain⟨cur,e,fz,hb,hoff,R2,hT,hval,hown⟩:=R1.takeOb (s1:=ab h.take s) (μ1:=bj μ q.1 q.2.1 q'.2) hob' hx rfl rfl rfl iW.1 (by rw[hq'];exact(mC hq).symm)
    have hval':LVR G w L (ab h.take s).lam.length q'.1 (cur.getD q.2.2 undef):=by
     rcases hval with⟨h0,_⟩|⟨_,hval⟩
     ·rw[R.lev]at hq;omega
     ·exact ov _ _ hval
    obtain⟨y,h7,h8⟩:=fF hop
    obtain⟨h9,h10⟩:=h8 G w L _ _ hval'
    obtain⟨R3,E3⟩:=cg (dst:=o.dst) (v:=y) (cv:=cur.getD q.2.2 undef) R2 (E1.weaken (fun _ h=>h) (fun b hb=>hT b hb)) h9 (fun b hb=>⟨(hown b (h10 b hb)).1,(hown b (h10 b hb)).2.1,(E1.grow b (hown b (h10 b hb)).2.2)⟩) hd
    refine cm ?_ (hk _ _ _ _ w G h7 R3 E3)
    simp only[execOp,ho,hv.2]
    exact cB (D9 hb hoff ha hu)
 ·simp at hop
theorem Qf {xs:List CV}{i:Int}{c:CV}(h:bm xs i=some c):0≤i∧xs[i.toNat]? =some c:=by
 unfold bm at h
 split at h<;>try(simp at h;done)
 rename_i h0
 exact⟨by simpa using h0,h⟩
theorem gO {i:Int}{n:Nat}(h:bW i n=true):0≤i∧i<(n:Int):=by
 simpa[bW]using h
theorem gG {c:CV}(h: ∀cs,c≠ .agg cs):c.cells=[c]:=by
 cases c<;>first|rfl|exact absurd rfl (h _)
theorem QP {β:Type}{d:TypeDesc}{c:CV}{k:CV→Option β}{r:β}(h:gz d (.cv c) k=some r):
  ∃c':CV,k c'=some r∧(c'=c∨((∀cs,c≠ .agg cs)∧ ∀cs,c'≠ .agg cs))∧ ∀(G:Gh) (w:World) (v:Value),VR G w c v→VR G w c' v:=by
 obtain⟨c0,h0,hr⟩:=ph h
 unfold gz at h
 split at h<;>obtain⟨q,h1,h2⟩:=ac.1 h
 ·have:=iP h1
  injection this with this
  subst this
  exact⟨_,h2,.inl rfl,fun _ _ _ h=>h⟩
 ·have:=fW h1
  injection this with this
  subst this
  exact⟨_,h2,.inl rfl,fun _ _ _ h=>h⟩
 ·have:=fX h1
  injection this with this
  subst this
  exact⟨_,h2,.inl rfl,fun _ _ _ h=>h⟩
 ·refine⟨_,h2,.inr ⟨fun cs e=> ?_,by simp⟩,fun G w v hv=>fm (L:=0) (nl:=0) h1 (by simpa[LVR]using hv)⟩
  subst e
  simp[bp]at h1
 ·simp only[bP,Option.some.injEq]at h1
  subst h1
  exact⟨_,h2,.inl rfl,fun _ _ _ h=>h⟩
theorem FY {t:TypeId}{x ix:Operand}(ho:o.op= .indexAddr t x ix)(R:Rel G L s μ a.tmps w)(hd: ∀d,o.dst=some d→d<a.tmps.size)(hk:KOK L G w s μ a o.dst k r K)
  (hop:opt (kA (evA h s.fr ix)) (fun i=>fb P h t (evA h s.fr x) i fun v=>k v (ab h.take s) μ)=some r):o.wp P a w K Q:=by
 obtain⟨i,h1,hop⟩:=ac.1 hop
 obtain⟨kd,e1⟩:=mq h1
 have hi:=iO R e1
 have hrunS: ∀e n b off len cap,P.underlying t=some (.slice e)→bU P e=some n→a.eval x= .slice (some ⟨b,off,none⟩) len cap→0≤i→i<(len:Int)→
   (execOp a.eval o).run P w= .ok (.value (.pointer (some ⟨b,off+i.toNat*n,none⟩))) w:=by
  intro e n b off len cap hu hn ea h0 hlt
  simp only[execOp,ho,ea,hi]
  refine cB ?_
  simp[Instr.indexAt,asIntOf,run_underlying hu,h0,hlt,db hn,dP]
 have hrunA: ∀e n b off len,P.underlying t=some (.array len e)→bU P e=some n→a.eval x= .pointer (some ⟨b,off,none⟩)→0≤i→i<(len:Int)→
   (execOp a.eval o).run P w= .ok (.value (.pointer (some ⟨b,off+i.toNat*n,none⟩))) w:=by
  intro e n b off len hu hn ea h0 hlt
  simp only[execOp,ho,ea,hi]
  refine cB ?_
  simp[Instr.indexAt,Instr.sureAddr,asIntOf,run_underlying hu,h0,hlt,db hn,dP]
 have hsl: ∀xs e n,P.underlying t=some (.slice e)→bU P e=some n→VR G w (.sl xs) (a.eval x)→
   (opt (bm xs i) fun c=>eZ P e c fun c=>kK (bD P e) n c fun v=>k v (ab h.take s) μ)=some r→o.wp P a w K Q:=by
  intro xs e n hu hn hv hop0
  obtain⟨c,hc,hop1⟩:=ac.1 hop0
  have hop:=Ic hop1 (fun c hc=>Ov hc)
  clear hop0 hop1
  obtain⟨h0,hget⟩:=Qf hc
  simp only[VR]at hv
  obtain⟨A,len,cap,e2,rfl,hle,hx⟩:=hv
  have hlt:i.toNat<xs.length:=(List.getElem?_eq_some_iff.1 hget).1
  rcases hx with hx|⟨b,off,sz,rfl,hs,hl⟩
  ·omega
  have hcl:=BY hl i.toNat c hget
  have hsc:c.cells.length=sz:=hs c (List.mem_of_getElem? hget)
  have key: ∃c':CV,ax (Nat.beq c'.cells.length n) (k (.cv (.view c'.cells)) (ab h.take s) μ)=some r∧c'.cells.length=sz∧CL G w b (off+i.toNat*sz) c'.cells:=by
   unfold eZ fG at hop
   split at hop
   ·split at hop
    ·obtain⟨cs,hag,hop1⟩:=ac.1 hop
     have:=j7 hag
     injection this with this
     subst this
     exact⟨_,hop1,hsc,hcl⟩
    ·obtain⟨cs,hag,hop1⟩:=ac.1 hop
     obtain⟨cs',hop2,hf⟩:=kG hop1
     have:=j7 hag
     injection this with this
     subst this
     exact⟨_,hop2,by simp only[CV.cells]at hsc ⊢; rw[hf.1];exact hsc,by simp only[CV.cells]at hcl ⊢; exact hf.CL hcl⟩
   ·split at hop<;>try(simp at hop;done)
    obtain⟨c',hop1,hcase,hr⟩:=QP hop
    rcases hcase with rfl|⟨n1,n2⟩
    ·exact⟨c',hop1,hsc,hcl⟩
    ·refine⟨c',hop1,?_,?_⟩
     ·rw[gG n1]at hsc
      rw[gG n2];exact hsc
     ·rw[gG n1]at hcl
      rw[gG n2]
      simp only[CL,and_true]at hcl ⊢
      obtain⟨v,a1,a2,a3⟩:=hcl
      exact⟨v,a1,a2,hr G w v a3⟩
  obtain⟨c',hop1,hlc,hcl'⟩:=key
  obtain⟨hlen,hop2⟩:=aF.1 hop1
  have hlen:=Nat.eq_of_beq_eq_true hlen
  have hsn:sz=n:=by omega
  subst hsn
  exact cu R hd hk hop2 ⟨_,hrunS e sz b off xs.length cap hu hn e2 h0 (by omega),by simp only[VR];exact⟨b,_,rfl,hcl'⟩⟩
 unfold fb at hop
 split at hop
 ·rename_i e hu
  obtain⟨n,hn,hop⟩:=ac.1 hop
  split at hop
  ·rename_i id off len he
   obtain⟨hr,hop⟩:=aF.1 hop
   obtain⟨h0,hlt⟩:=gO hr
   have hv:=(aX R h x).1
   rw[he]at hv
   simp only[LVR]at hv
   obtain⟨hid,cap,cur,e',fz,hv,_⟩:=hv
   exact dl R hd hk hop (hrunS e n _ _ len cap hu hn hv h0 hlt) (by simp only[LVR];exact⟨hid,trivial⟩) (fun b hb=>by simp[aH]at hb)
  ·rename_i xs he
   have hv:=(aX R h x).1
   rw[he]at hv
   simp only[LVR]at hv
   exact hsl xs e n hu hn (g9 hv) hop
  ·split at hop
   ·obtain⟨xs,hg,hop⟩:=ac.1 hop
    exact hsl xs e n hu hn (fm hg (aX R h x).1) hop
   ·obtain⟨q,hg,hop⟩:=ac.1 hop
    obtain⟨hr,hop⟩:=aF.1 hop
    obtain⟨h0,hlt⟩:=gO hr
    have hv:=co R (OC hg)
    simp only[VR]at hv
    obtain⟨hid,cap,cur,e',fz,hv,_⟩:=hv
    exact cu R hd hk hop ⟨_,hrunS e n _ _ _ cap hu hn hv h0 hlt,by simp only[VR];exact⟨hid,trivial⟩⟩
  ·simp at hop
 ·rename_i len e hu
  obtain⟨n,hn,hop⟩:=ac.1 hop
  split at hop
  ·rename_i id off he
   obtain⟨hr,hop⟩:=aF.1 hop
   obtain⟨h0,hlt⟩:=gO hr
   have hv:=(aX R h x).1
   rw[he]at hv
   simp only[LVR]at hv
   exact dl R hd hk hop (hrunA e n _ _ len hu hn hv.2 h0 hlt) (by simp only[LVR];exact⟨hv.1,trivial⟩) (fun b hb=>by simp[aH]at hb)
  ·split at hop
   ·obtain⟨cs,hg,hop⟩:=ac.1 hop
    obtain⟨hr,hop⟩:=aF.1 hop
    obtain⟨hle,hop⟩:=aF.1 hop
    obtain⟨h0,hlt⟩:=gO hr
    have hv:=co R (rr hg)
    simp only[VR]at hv
    obtain⟨b,off,e2,hcl⟩:=hv
    exact cu R hd hk hop ⟨_,hrunA e n b off len hu hn e2 h0 hlt,by simp only[VR];exact⟨b,_,rfl,pz _ hcl⟩⟩
   ·obtain⟨q,hg,hop⟩:=ac.1 hop
    obtain⟨hr,hop⟩:=aF.1 hop
    obtain⟨h0,hlt⟩:=gO hr
    have hv:=co R (oT hg)
    simp only[VR]at hv
    exact cu R hd hk hop ⟨_,hrunA e n _ _ len hu hn hv.2 h0 hlt,by simp only[VR];exact⟨hv.1,trivial⟩⟩
  ·simp at hop
 ·simp at hop
end
end Go.Abs
set_option linter.unusedVariables false
set_option linter.unusedSimpArgs false
namespace Go.Abs
open Go
section
variable {P:Program}{ρ:Rho}{α:Type}{L:Nat}{G:Gh}{w:World}{s:S}{μ:Mu}{a:Act}{o:Oper}{h:OpHint}{k:LV→S→Mu→Option α}{p:CV→S→Mu→Option α}{r:α}{K:Act→World→Prop}{Q:Exit→Act→World→Prop}
theorem TC {t:TypeId}{x ix:Operand}(ho:o.op= .index t x ix)(R:Rel G L s μ a.tmps w)(hd: ∀d,o.dst=some d→d<a.tmps.size)(hk:KOK L G w s μ a o.dst k r K)
  (hop:opt (kA (evA h s.fr ix)) (fun i=>kO P t (evA h s.fr x) i fun v=>k v (ab h.take s) μ)=some r):o.wp P a w K Q:=by
 obtain⟨i,h1,hop⟩:=ac.1 hop
 obtain⟨kd,e1⟩:=mq h1
 have hi:=iO R e1
 unfold kO at hop
 split at hop
 ·rename_i hu
  obtain⟨l,h2,hop⟩:=ac.1 hop
  obtain⟨b,h3,hop⟩:=ac.1 hop
  have hv:=co R (fX h2)
  simp only[VR]at hv
  refine cu R hd hk hop ⟨.int .u8 (b.toNat:Int),?_,by simp[VR]⟩
  simp only[execOp,ho,hv,hi]
  exact cB (Qm hu h3)
 ·rename_i len e hu
  split at hop<;>try(simp at hop;done)
  obtain⟨cs,h2,hop⟩:=ac.1 hop
  obtain⟨n,hn,hop⟩:=ac.1 hop
  obtain⟨hr,hop⟩:=aF.1 hop
  obtain⟨c,hc,hop⟩:=ac.1 hop
  obtain⟨c',hop,hr'⟩:=oq hop
  obtain⟨h0,hlt⟩:=gO hr
  have hv:=co R (j7 h2)
  simp only[VR]at hv
  obtain⟨vs,e2,hl⟩:=hv
  obtain⟨u,h3,h4⟩:=u2 (P:=P) (fQ hc).1 (fQ hc).2 hl
  refine cu R hd hk hop ⟨u,?_,hr' G w 0 0 u (by simpa[LVR]using h4)⟩
  simp only[execOp,ho,e2,hi]
  refine cB ?_
  simp only[Instr.index,asIntOf,Sem.run_bind,Sem.run_pure,Result.andThen_ok,run_underlying hu,if_pos (And.intro h0 hlt),db hn,h3]
 ·simp at hop
theorem TE {t:TypeId}{x:Operand}{lo hi:Option Operand}(ho:o.op= .slice t x lo hi none)(R:Rel G L s μ a.tmps w)(hd: ∀d,o.dst=some d→d<a.tmps.size)(hk:KOK L G w s μ a o.dst k r K)
  (hop:ir P t (evA h s.fr x) lo hi (evA h s.fr) (fun v=>k v (ab h.take s) μ)=some r):o.wp P a w K Q:=by
 have hrun: ∀{cv:Value},(Instr.sliceAt t (a.eval x) (lo.map a.eval) (hi.map a.eval) none).run P w= .ok cv w→(execOp a.eval o).run P w= .ok (.value cv) w:=by
  intro cv h
  simp only[execOp,ho]
  exact cB (by simpa using h)
 unfold ir at hop
 split at hop
 ·rename_i hu
  obtain⟨l,h2,hop⟩:=ac.1 hop
  obtain⟨m,hm,hop⟩:=iN R hop
  obtain⟨n,hn,hop⟩:=iN R hop
  obtain⟨q,hq,hop⟩:=ac.1 hop
  have hv:=co R (fX h2)
  simp only[VR]at hv
  refine cu R hd hk hop ⟨.string ⟨⟨q⟩⟩,hrun ?_,by simp[VR]⟩
  rw[hv]
  exact FD hu hq hm hn
 ·rename_i e hu
  obtain⟨sz,hsz,hop⟩:=ac.1 hop
  have hsl: ∀xs,VR G w (.sl xs) (a.eval x)→(cT (evA h s.fr) lo 0 fun m=>cT (evA h s.fr) hi (xs.length:Int) fun n=>ax (qh sz m xs) (opt (dB xs m n) fun q=>k (.cv (.sl q)) (ab h.take s) μ))=some r→o.wp P a w K Q:=by
   intro xs hv hop
   obtain⟨m,hm,hop⟩:=iN R hop
   obtain⟨n,hn,hop⟩:=iN R hop
   obtain⟨hg,hop⟩:=aF.1 hop
   obtain⟨q,hq,hop⟩:=ac.1 hop
   obtain⟨u,h3,h4⟩:=H0 hu hsz hv hq hg hm hn
   exact cu R hd hk hop ⟨u,hrun h3,h4⟩
  split at hop
  ·obtain⟨xs,h2,hop⟩:=ac.1 hop
   exact hsl xs (fm h2 (aX R h x).1) hop
  ·rename_i xs he
   have hv:=(aX R h x).1
   rw[he]at hv
   simp only[LVR]at hv
   exact hsl xs (g9 hv) hop
  ·rename_i id off len he
   obtain⟨m,hm,hop1⟩:=iN R hop
   obtain⟨n,hn,hop2⟩:=iN R hop1
   obtain⟨hg,hop3⟩:=aF.1 hop2
   clear hop hop1 hop2
   simp only[Bool.and_eq_true,decide_eq_true_eq]at hg
   obtain⟨⟨hm0,h0⟩,hle⟩:=hg
   rw[hm0]at hm
   have hv:=(aX R h x).1
   rw[he]at hv
   simp only[LVR]at hv
   obtain⟨hid,cap,cur,e',fz,hv,hlc,hcm,hb,hsize⟩:=hv
   have hbs:=iF (P:=P) (w:=w) (isS:=true) hlc (Int.le_refl 0) h0 hle hm hn
   refine dl R hd hk hop3 (cv:= .slice (some ⟨G.β L id,off,none⟩) n.toNat cap) (hrun ?_) ?_ (fun b hb=>by simp[aH]at hb)
   ·rw[hv]
    simp only[Instr.sliceAt,Sem.run_bind,run_underlying hu,Result.andThen_ok,Instr.slice,hbs,db hsz,Sem.run_pure]
    by_cases hc:cap=0
    ·simp[hc]
    ·simp[hc,dP]
   ·simp only[LVR]
    exact⟨hid,cap,cur,e',fz,rfl,by omega,hcm,hb,hsize⟩
  ·rename_i xs he
   obtain⟨m,hm,hop1⟩:=iN R hop
   obtain⟨n,hn,hop2⟩:=iN R hop1
   obtain⟨hg,hop3⟩:=aF.1 hop2
   clear hop hop1 hop2
   simp only[Bool.and_eq_true,decide_eq_true_eq]at hg
   obtain⟨⟨hm0,h0⟩,hle⟩:=hg
   rw[hm0]at hm
   obtain⟨hv,how⟩:=aX R h x
   rw[he]at hv how
   simp only[LVR]at hv
   rcases hv with⟨h1,h2⟩|⟨b,cap,cur,e',hv,hb,h1,h2,h3,h4,h5⟩
   ·rw[h1]at hle
    simp only[List.length_nil]at hle
    omega
   have hbs:=iF (P:=P) (w:=w) (isS:=true) h1 (Int.le_refl 0) h0 (Int.le_of_lt hle) hm hn
   refine dl R hd hk hop3 (cv:= .slice (some ⟨b,0,none⟩) n.toNat cap) (hrun ?_) ?_ (fun b' hb'=>how b' (by rw[hv];simpa[aH]using hb'))
   ·rw[hv]
    simp only[Instr.sliceAt,Sem.run_bind,run_underlying hu,Result.andThen_ok,Instr.slice,hbs,db hsz,Sem.run_pure]
    by_cases hc:cap=0
    ·simp[hc]
    ·simp[hc,dP]
   ·simp only[LVR]
    refine .inr ⟨b,cap,cur,e',by rw[List.length_take,Nat.min_eq_left (by omega)],hb,by rw[List.length_take];omega,h2,h3,h4,fun j y hy=>h5 j y ?_⟩
    rw[List.getElem?_take]at hy
    split at hy
    ·exact hy
    ·cases hy
  ·simp at hop
 ·simp at hop
theorem WD {x:Operand}{t:TypeId}{c:Call}(ho:o.op= .call c)(hc:c.callee= .builtin .len)(hx:c.args.toList=[x])(ht:c.argTypes.toList=[t])(R:Rel G L s μ a.tmps w)(hd: ∀d,o.dst=some d→d<a.tmps.size)(hk:KOK L G w s μ a o.dst k r K)
  (hop:opt (Lk P t (evA h s.fr x)) (fun n=>k (.cv (.v (.int .i64 n))) (ab h.take s) μ)=some r):o.wp P a w K Q:=by
 obtain⟨n,h1,h2⟩:=ac.1 hop
 have hx':c.args= #[x]:=by cases ha:c.args;simp_all
 have ht':c.argTypes= #[t]:=by cases ha:c.argTypes;simp_all
 refine cu R hd hk h2 ⟨.int .i64 n,?_,by simp[VR]⟩
 have:=Q9 (ty:=o.type) h1 (aX R h x).1
 simp only[execOp,ho,resolve,hc,hx',ht',Sem.run_bind,Sem.run_pure,Result.andThen_ok,invoke,builtin,List.map_toArray,List.map_cons,List.map_nil]
 rw[this];rfl
theorem V6 (x y:Int):(if y>x then y else x)=max x y:=by
 rw[Int.max_def];split<;>split<;>omega
theorem V7 (x y:Int):(if y<x then y else x)=min x y:=by
 rw[Int.min_def];split<;>split<;>omega
theorem WE {x y:Operand}{c:Call}(ho:o.op= .call c)(hc:c.callee= .builtin .max)(hx:c.args.toList=[x,y])(R:Rel G L s μ a.tmps w)(hd: ∀d,o.dst=some d→d<a.tmps.size)(hk:KOK L G w s μ a o.dst k r K)
  (hop:opt (aC .i64 (evA h s.fr x)) (fun m=>opt (aC .i64 (evA h s.fr y)) fun n=>k (.cv (.v (.int .i64 (max m n)))) (ab h.take s) μ)=some r):o.wp P a w K Q:=by
 obtain⟨m,h1,hop⟩:=ac.1 hop
 obtain⟨n,h2,hop⟩:=ac.1 hop
 have hx':c.args= #[x,y]:=by cases ha:c.args;simp_all
 refine cu R hd hk hop ⟨.int .i64 (max m n),?_,by simp[VR]⟩
 simp only[execOp,ho,resolve,hc,hx',Sem.run_bind,Sem.run_pure,Result.andThen_ok,invoke,builtin,List.map_toArray,List.map_cons,List.map_nil,iO R (iP h1),iO R (iP h2)]
 simp only[Builtin.max_,List.foldlM_cons,List.foldlM_nil,Builtin.max2,Sem.run_bind,Sem.run_pure,Result.andThen_ok,V6]
theorem WF {x y:Operand}{c:Call}(ho:o.op= .call c)(hc:c.callee= .builtin .min)(hx:c.args.toList=[x,y])(R:Rel G L s μ a.tmps w)(hd: ∀d,o.dst=some d→d<a.tmps.size)(hk:KOK L G w s μ a o.dst k r K)
  (hop:opt (aC .i64 (evA h s.fr x)) (fun m=>opt (aC .i64 (evA h s.fr y)) fun n=>k (.cv (.v (.int .i64 (min m n)))) (ab h.take s) μ)=some r):o.wp P a w K Q:=by
 obtain⟨m,h1,hop⟩:=ac.1 hop
 obtain⟨n,h2,hop⟩:=ac.1 hop
 have hx':c.args= #[x,y]:=by cases ha:c.args;simp_all
 refine cu R hd hk hop ⟨.int .i64 (min m n),?_,by simp[VR]⟩
 simp only[execOp,ho,resolve,hc,hx',Sem.run_bind,Sem.run_pure,Result.andThen_ok,invoke,builtin,List.map_toArray,List.map_cons,List.map_nil,iO R (iP h1),iO R (iP h2)]
 simp only[Builtin.min_,List.foldlM_cons,List.foldlM_nil,Builtin.min2,Sem.run_bind,Sem.run_pure,Result.andThen_ok,V7]
theorem ls: ∀{xs:List CV} {l:List UInt8},bn xs=some l→ ∃ns:List Int,xs=ns.map (fun n=> .v (.int .u8 n))∧l=ns.map fun n=>UInt8.ofNat n.toNat
 |[],l,h=>by simp only[bn,Option.some.injEq]at h;subst h;exact⟨[],rfl,rfl⟩
 |c::r,l,h=>by
  unfold bn at h
  split at h<;>try(simp at h;done)
  ·rename_i e;cases e
  ·rename_i n r' e
   injection e with e1 e2
   subst e1;subst e2
   split at h<;>try(simp at h;done)
   obtain⟨l',h1,h2⟩:=ac.1 h
   simp only[Option.some.injEq]at h2
   subst h2
   obtain⟨ns,h3,h4⟩:=ls h1
   exact⟨n::ns,by rw[h3];rfl,by rw[h4];rfl⟩
theorem K8 (ns:List Int): ∀(acc:List UInt8),ns.foldl (fun r n=>r.push (UInt8.ofNat n.toNat)) (⟨⟨acc⟩⟩:ByteArray)=⟨⟨acc++ns.map fun n=>UInt8.ofNat n.toNat⟩⟩:=by
 induction ns with
 |nil=>intro acc;simp
 |cons n ns ih=>
  intro acc
  simp only[List.foldl_cons,List.map_cons]
  have:(⟨⟨acc⟩⟩:ByteArray).push (UInt8.ofNat n.toNat)=⟨⟨acc++[UInt8.ofNat n.toNat]⟩⟩:=by
   apply ByteArray.ext
   simp[ByteArray.push]
  rw[this,ih]
  simp
theorem mU {A:Addr}{len cap:Nat}{ns:List Int}(hl:len=ns.length)(hc: ∀(j:Nat) n,ns[j]? =some n→w.cell? (A.add j)=some (.int .u8 n)):
  (Conv.bytesToString (.slice (some A) len cap)).run P w= .ok (.string ⟨⟨ns.map fun n=>UInt8.ofNat n.toNat⟩⟩) w:=by
 have h1:(loadCells A len).run P w= .ok (ns.map (Value.int .u8)).toArray w:=by
  have := run_loadCells_list (P := P) w A (ns.map (Value.int .u8)) (fun j v hv => by
   simp only[List.getElem?_map,Option.map_eq_some_iff]at hv
   obtain⟨n,hn,rfl⟩:=hv
   exact hc j n hn)
  rw[hl]
  simpa using this
 rw[run_bytesToString w A len cap ns h1]
 have:=K8 ns []
 simp only[List.nil_append]at this
 rw[←this]
 rfl
theorem NG {src dst:TypeId}{x:Operand}(ho:o.op= .convert src dst x)(R:Rel G L s μ a.tmps w)(hd: ∀d,o.dst=some d→d<a.tmps.size)(hk:KOK L G w s μ a o.dst k r K)
  (hop:c8 P h src dst (evA h s.fr x) (ab h.take s) μ k=some r)
  (hsb : ∀ e l, P.underlying dst = some (.slice e) → P.underlying e = some (.int .u8) → P.underlying src = some .string → evA h s.fr x = LV.str l → bC l.length = true →
   (match h.arr with
    |true=>k (.lsl (ab h.take s).lam.length 0 l.length) {ab h.take s with lam:=(ab h.take s).lam++[.arr 1 (l.map fun b=> .v (.int .u8 (b.toNat:Int)))]} μ
    |false=>k (.cv (.sl (l.map fun b=> .v (.int .u8 (b.toNat:Int))))) (ab h.take s) μ)=some r→o.wp P a w K Q):o.wp P a w K Q:=by
 have hl:=aQ h.take s
 have hrun: ∀{cv:Value},(convert src dst (a.eval x)).run P w= .ok cv w→(execOp a.eval o).run P w= .ok (.value cv) w:=by
  intro cv h
  simp only[execOp,ho]
  exact cB h
 unfold c8 at hop
 split at hop
 ·rename_i ik hu
  split at hop<;>try(simp at hop;done)
  rename_i ik' hu'
  obtain⟨n,h1,hop⟩:=ac.1 hop
  obtain⟨kd,e1⟩:=mq h1
  refine cu R hd hk hop ⟨.int ik (ik.wrap n),hrun ?_,by simp[VR]⟩
  rw[iO R e1]
  simp[convert,run_underlying hu,run_underlying hu',Conv.intToInt]
 ·rename_i hu
  split at hop
  ·rename_i hu'
   obtain⟨l,h1,hop⟩:=ac.1 hop
   have hv:=co R (fX h1)
   simp only[VR]at hv
   refine cu R hd hk hop ⟨.string ⟨⟨l⟩⟩,hrun ?_,by simp[VR]⟩
   rw[hv]
   simp[convert,run_underlying hu,run_underlying hu']
  ·rename_i e hu'
   split at hop<;>try(simp at hop;done)
   rename_i hue
   have hconv: ∀A len cap,a.eval x= .slice A len cap→convert src dst (a.eval x)=convert src dst (.slice A len cap):=fun A len cap e=>by rw[e]
   have hcv: ∀A len cap,(convert src dst (.slice A len cap)).run P w=(Conv.bytesToString (.slice A len cap)).run P w:=by
    intro A len cap
    simp[convert,run_underlying hu,run_underlying hu',run_underlying hue]
   split at hop
   ·rename_i id off len he
    split at hop<;>try(simp at hop;done)
    rename_i sz cs hob
    obtain⟨hle,hop⟩:=aF.1 hop
    have hle:=Nat.le_of_ble_eq_true hle
    obtain⟨l,hb,hop⟩:=ac.1 hop
    obtain⟨ns,h1,h2⟩:=ls hb
    have hv:=(aX R h x).1
    rw[he]at hv
    simp only[LVR]at hv
    obtain⟨hid,cap,cur,e',fz,hv,hlc,hcm,hbk,hsize⟩:=hv
    have hobr:=R.lam id
    rw[hl.1]at hob
    rw[hob]at hobr
    simp only[ObR]at hobr
    obtain⟨_,cur2,e2,fz2,hbk2,_,_,hsz,hr⟩:=hobr
    have hlen:ns.length=len:=by
     have:=congrArg List.length h1
     simp only[List.length_take,List.length_drop,List.length_map]at this
     omega
    refine cu R hd hk hop ⟨.string ⟨⟨l⟩⟩,hrun ?_,by simp[VR]⟩
    rw[hv,hcv,h2]
    refine mU hlen.symm fun j n hn=> ?_
    have hj:j<len:=by have:=(List.getElem?_eq_some_iff.1 hn).1;omega
    rw[dP,cell_of_heap hbk2 (by omega)]
    have hx:cs[off+j]? =some (.v (.int .u8 n)):=by
     have e3:((cs.drop off).take len)[j]? =some (.v (.int .u8 n)):=by rw[h1];simp[hn]
     rw[List.getElem?_take_of_lt hj,List.getElem?_drop]at e3
     exact e3
    have:=hr (off+j) _ hx
    simp only[VR]at this
    rw[this]
   ·obtain⟨xs,hg,hop⟩:=ac.1 hop
    obtain⟨l,hb,hop⟩:=ac.1 hop
    obtain⟨ns,rfl,rfl⟩:=ls hb
    have hv:=fm hg (aX R h x).1
    simp only[VR]at hv
    obtain⟨A,len,cap,e1,e2,_,hx⟩:=hv
    have hlen:len=ns.length:=by simpa using e2
    refine cu R hd hk hop ⟨.string ⟨⟨ns.map fun n=>UInt8.ofNat n.toNat⟩⟩,hrun ?_,by simp[VR]⟩
    rw[e1,hcv]
    cases A with
    |none=>
     have:ns=[]:=by
      rcases hx with hx|⟨b,off,sz,hA,_⟩
      ·exact List.eq_nil_of_length_eq_zero (by omega)
      ·cases hA
     subst this
     rfl
    |some A=>
     refine mU hlen fun j n hn=> ?_
     have hj:j<ns.length:=(List.getElem?_eq_some_iff.1 hn).1
     rcases hx with hx|⟨b,off,sz,hA,hs,hel⟩
     ·omega
     ·injection hA with hA
      subst hA
      have hcl:=BY hel j (.v (.int .u8 n)) (by simp[hn])
      have hsz:sz=1:=by
       have:=hs (.v (.int .u8 n)) (by simp;exact List.mem_of_getElem? hn)
       simpa[CV.cells]using this.symm
      subst hsz
      simp only[CV.cells,CL,and_true]at hcl
      obtain⟨v,h3,_,h4⟩:=hcl
      simp only[VR]at h4
      subst h4
      rw[dP]
      simpa using h3
  ·simp at hop
 ·rename_i e hu
  split at hop<;>try(simp at hop;done)
  rename_i hu'
  split at hop<;>try(simp at hop;done)
  rename_i hue
  obtain⟨l,h1,hop⟩:=ac.1 hop
  obtain⟨hsm,hop⟩:=aF.1 hop
  exact hsb e l hu hue hu' (fX h1) hsm hop
 ·simp at hop
end
end Go.Abs
set_option linter.unusedVariables false
set_option linter.unusedSimpArgs false
namespace Go.Abs
open Go
theorem kg (cur:Array Value):ec cur (0,0):=fun j _ h=>by simp at h
section
variable {P:Program}{ρ:Rho}{α:Type}{L:Nat}{G:Gh}{w:World}{s:S}{μ:Mu}{a:Act}{o:Oper}{h:OpHint}{k:LV→S→Mu→Option α}{p:CV→S→Mu→Option α}{r:α}{K:Act→World→Prop}{Q:Exit→Act→World→Prop}
theorem Fz {G:Gh}{L m b kk:Nat}{pu:Bool}: ∀l,l<L→(∀i,(G.setL L m b kk pu).β l i=G.β l i∧(G.setL L m b kk pu).sz l i=G.sz l i)∧(G.setL L m b kk pu).n l=G.n l:=by
 intro l hl
 have: ¬l=L:=by omega
 simp[Gh.setL,this]
theorem im {G0:Gh}{w0:World}{T0:Nat→Prop}(R:Rel G L s μ a.tmps w)(E:Ext L T0 G0 w0 G w (aB G w s μ a.tmps))(hd: ∀d,o.dst=some d→d<a.tmps.size)
  {cur:Array Value} {e:TypeId} {ob:Ob} {kk:Nat} {fz:Nat×Nat} (hfz:ec cur fz)
  (hob : (∃ cs, ob = .cells cs ∧ cs.length ≤ cur.size ∧ ∀ j x, cs[j]? = some x → LVR G w L s.lam.length x (cur.getD j undef)) ∨
   (∃cs,ob= .arr kk cs∧cs.length≤cur.size∧ ∀j x,cs[j]? =some x→VR G w x (cur.getD j undef)))
  (hown: ∀cs j b,ob= .cells cs→cF cs cur j b→((∀l,¬ay G w s.fr a.tmps (μ++[s.lam]) l b)∧(∀lev i,aK (aE (μ++[s.lam]) lev i)→G.β lev i≠b)∧ ∀j',cF cs cur j' b→j'=j)∧(T0 b∨w0.heap.size≤b))
  {v:LV} {cv:Value} (hv: ∀G1 w1,G1=G.setL L s.lam.length w.heap.size kk s.pushed→w1=w.alloc (.cells cur e fz)→LVR G1 w1 L (s.lam.length+1) v cv) (hno: ∀b,¬aH v cv b):
  ∃G1,Rel G1 L ({s with lam:=s.lam++[ob]}.put o.dst v) μ (a.put o.dst cv).tmps (w.alloc (.cells cur e fz))∧
   Ext L T0 G0 w0 G1 (w.alloc (.cells cur e fz)) (aB G1 (w.alloc (.cells cur e fz)) ({s with lam:=s.lam++[ob]}.put o.dst v) μ (a.put o.dst cv).tmps):=by
 obtain⟨R1,hle,hT,_⟩:=R.newLocal hfz (e:=e) hob fun cs j b h1 h2=>(hown cs j b h1 h2).1
 have E1:Ext L T0 G0 w0 (G.setL L s.lam.length w.heap.size kk s.pushed) (w.alloc (.cells cur e fz)) (aB (G.setL L s.lam.length w.heap.size kk s.pushed) (w.alloc (.cells cur e fz)) {s with lam:=s.lam++[ob]} μ a.tmps):=by
  refine⟨E.le.trans hle,E.os,E.tape,E.output,Nat.le_trans E.size (by simp),fun b hb hn=> ?_,fun b hb=> ?_,fun l hl=> ?_⟩
  ·obtain⟨h1,h2⟩:=E.keep b hb hn
   have hlt:b<w.heap.size:=Nat.lt_of_lt_of_le hb E.size
   refine⟨(heap_alloc_old w _ hlt).trans h1,?_⟩
   rw[←h2]
   have:b≠w.heap.size:=by omega
   simp[Gh.setL,this]
  ·rcases hT b hb with h1|rfl|⟨cs,j,h1,h2⟩
   ·exact E.grow b h1
   ·exact .inr E.size
   ·exact(hown cs j b h1 h2).2
  ·obtain⟨h1,h2⟩:=E.lev l hl
   obtain⟨h3,h4⟩:=Fz (G:=G) (m:=s.lam.length) (b:=w.heap.size) (kk:=kk) (pu:=s.pushed) l hl
   exact⟨fun i=>⟨(h3 i).1.trans (h1 i).1,(h3 i).2.trans (h1 i).2⟩,h4.trans h2⟩
 obtain⟨R2,E2⟩:=cg (dst:=o.dst) (v:=v) (cv:=cv) R1 E1 (by simpa using hv _ _ rfl rfl) (fun b hb=>absurd hb (hno b)) hd
 exact⟨_,R2,E2⟩
theorem JQ {cur:Array Value}{e:TypeId}{fz:Nat×Nat}{kk:Nat}: ∀G1 w1,G1=G.setL L s.lam.length w.heap.size kk s.pushed→w1=w.alloc (.cells cur e fz)→
  LVR G1 w1 L (s.lam.length+1) (.loc s.lam.length 0) (.pointer (some ⟨w.heap.size,0,none⟩)):=by
 intro G1 w1 hG hw
 subst hG
 simp only[LVR]
 exact⟨by omega,by simp[Gh.setL]⟩
theorem KO {b:Bool}{n:Nat}{cur:Array Value}{e:TypeId}{fz:Nat×Nat}{kk:Nat}(hn:cur.size=n): ∀G1 w1,G1=G.setL L s.lam.length w.heap.size kk s.pushed→w1=w.alloc (.cells cur e fz)→
  LVR G1 w1 L (s.lam.length+1) (tW b s.lam.length e n) (.pointer (some ⟨w.heap.size,0,none⟩)):=by
 intro G1 w1 hG hw
 cases b with
 |false=>exact JQ G1 w1 hG hw
 |true=>
  subst hG
  subst hw
  simp only[LVR,tW]
  have e1:(G.setL L s.lam.length w.heap.size kk s.pushed).β L s.lam.length=w.heap.size:=by simp[Gh.setL]
  exact⟨by omega,by rw[e1],cur,fz,by rw[e1];exact Array.getElem?_push_size,hn⟩
theorem AM {cs:List CV}{cur:Array Value}(hl:VRL G w cs cur.toList){nl:Nat}:(cs.map LV.cv).length≤cur.size∧ ∀j x,(cs.map LV.cv)[j]? =some x→LVR G w L nl x (cur.getD j undef):=by
 obtain⟨e,hg⟩:=dp hl
 refine⟨by simp at e ⊢; omega,fun j x hx=> ?_⟩
 simp only[List.getElem?_map,Option.map_eq_some_iff]at hx
 obtain⟨c,hc,rfl⟩:=hx
 obtain⟨v,hv,hr⟩:=hg j c hc
 simp only[LVR]
 have:cur.getD j undef=v:=by
  rw[Array.getElem?_toList]at hv
  simp[Array.getD_eq_getD_getElem?,hv]
 rw[this];exact hr
theorem vT {cs:List CV}{cur:Array Value}{j b:Nat}: ¬cF (cs.map LV.cv) cur j b:=by
 rintro⟨x,hx,ho⟩
 simp only[List.getElem?_map,Option.map_eq_some_iff]at hx
 obtain⟨c,_,rfl⟩:=hx
 simp[aH]at ho
theorem Ty {e:TypeId}(ho:o.op= .alloc e)(R:Rel G L s μ a.tmps w)(hd: ∀d,o.dst=some d→d<a.tmps.size)(hk:KOK L G w s μ a o.dst k r K)
  (hop:opt (zeroCells P e) (fun cs=>k (tW h.cell (ab h.take s).lam.length e cs.length) {ab h.take s with lam:=(ab h.take s).lam++[.cells (cs.map .cv)]} μ)=some r):o.wp P a w K Q:=by
 obtain⟨cs,h1,hop⟩:=ac.1 hop
 obtain⟨R1,E1,_⟩:=cH R h.take
 obtain⟨z,i,hi,hz,hrun,hl⟩:=iv (P:=P) (G:=G) (w:=w) h1
 obtain⟨G1,R2,E2⟩:=im (o:=o) (kk:=0) (e:=e) R1 E1 hd (kg z.cells) (ob:= .cells (cs.map .cv)) (.inl ⟨_,rfl,AM hl⟩)
  (fun cs' j b he hc=>by injection he with he;subst he;exact absurd hc vT) (KO (by have:=VRL_len hl;simpa using this.symm)) (fun b hb=>by cases h.cell<;>simp[tW,aH]at hb)
 refine cm ?_ (hk _ _ μ _ _ G1 hop R2 E2)
 simp only[execOp,ho]
 refine cB ?_
 simp[Instr.alloc,hrun,newVar,newRow]
theorem iI {x:LV}{v:Value}{nl:Nat}{cs:List LV}(h:x.cells=some cs)(hv:LVR G w L nl x v):
  cs.length=v.cells.size∧(∀j y,cs[j]? =some y→LVR G w L nl y (v.cells.getD j undef))∧(∀u∈v.cells.toList,u.oneCell'=true)∧
  (∀j b,cF cs v.cells j b→j=0∧aH x v b):=by
 have one: ∀(y:LV),y=x→cs=[y]→v.oneCell'=true→cs.length=v.cells.size∧(∀j y,cs[j]? =some y→LVR G w L nl y (v.cells.getD j undef))∧(∀u∈v.cells.toList,u.oneCell'=true)∧
  (∀j b,cF cs v.cells j b→j=0∧aH x v b):=by
  rintro y rfl rfl h1
  rw[Bp h1]
  refine⟨rfl,fun j z hz=> ?_,by simpa using h1,?_⟩
  ·cases j with
   |zero=>simp only[List.getElem?_cons_zero,Option.some.injEq]at hz;subst hz;exact hv
   |succ j=>simp at hz
  ·rintro j b ⟨z,hz,ho⟩
   cases j with
   |zero=>simp only[List.getElem?_cons_zero,Option.some.injEq]at hz;subst hz;exact⟨rfl,ho⟩
   |succ j=>simp at hz
 unfold LV.cells at h
 split at h
 ·split at h<;>simp only[Option.some.injEq,reduceCtorEq]at h
  rename_i hs
  subst h
  simp only[LVR]at hv
  obtain⟨hl,h1⟩:=iz hs hv
  refine⟨by have:=VRL_len hl;simpa using this,(AM hl).2,h1,fun j b hc=>absurd hc vT⟩
 ·simp at h
 ·simp only[Option.some.injEq]at h
  rename_i n1 n2
  refine one x rfl h.symm ?_
  cases x<;>simp only[LVR]at hv
  ·exact absurd rfl (n1 _)
  ·rcases hv with⟨_,rfl⟩|⟨_,_,_,_,_,rfl,_⟩<;>rfl
  ·obtain⟨_,rfl⟩:=hv;rfl
  ·obtain⟨_,_,_,_,_,rfl,_⟩:=hv;rfl
  ·obtain⟨_,rfl,_⟩:=hv;rfl
  ·exact absurd rfl (n2 _)
  ·obtain⟨_,rfl⟩:=hv;rfl
  ·obtain⟨_,rfl,_⟩:=hv;rfl
  ·rcases hv with⟨_,rfl⟩|⟨_,_,_,_,rfl,_⟩<;>rfl
  ·obtain⟨_,_,rfl⟩:=hv;rfl
theorem WC {e:TypeId}{x:Operand}(ho:o.op= .box e x)(R:Rel G L s μ a.tmps w)(hd: ∀d,o.dst=some d→d<a.tmps.size)(hk:KOK L G w s μ a o.dst k r K)
  (hop:pV (bD P e) (evA h s.fr x) (fun cs=>k (.loc (ab h.take s).lam.length 0) {ab h.take s with lam:=(ab h.take s).lam++[.cells cs]} μ)=some r):o.wp P a w K Q:=by
 rw[kH]at hop
 obtain⟨cs,h0,hop⟩:=ac.1 hop
 have h1:=kI h0
 obtain⟨R1,E1,hO⟩:=cH R h.take
 have hl:=aQ h.take s
 obtain⟨hv,hown⟩:=aX R h x
 obtain⟨h2,h3,h4,h5⟩:=iI h1 hv
 obtain⟨G1,R2,E2⟩:=im (o:=o) (kk:=0) (e:=e) R1 E1 hd (kg (a.eval x).cells) (ob:= .cells cs) (.inl ⟨_,rfl,by omega,by rw[hl.1];exact h3⟩)
  (fun cs' j b he hc => by
   injection he with he
   subst he
   obtain⟨hj,ho'⟩:=h5 j b hc
   obtain⟨t,ht,hot⟩:=hown b ho'
   refine⟨⟨fun l hl'=> ?_,fun lev i hlv=> ?_,fun j' hc'=>by rw[(h5 j' b hc').1,hj]⟩,.inl (.inl ⟨.fr t,hot⟩)⟩
   ·obtain⟨a1,a2⟩:=hO l b hl'
    exact a1 t ht (R.own l (.fr t) b a2 hot)
   ·rw[hl.1]at hlv
    exact R.apart (.fr t) b lev i hot hlv) JQ (fun b hb=>by simp[aH]at hb)
 refine cm ?_ (hk _ _ μ _ _ G1 hop R2 E2)
 simp only[execOp,ho]
 refine cB ?_
 simp[Instr.box,newVar,newRow]
end
end Go.Abs
set_option linter.unusedVariables false
set_option linter.unusedSimpArgs false
namespace Go.Abs
open Go
section
variable {P:Program}{ρ:Rho}{α:Type}{L:Nat}{G:Gh}{w:World}{s:S}{μ:Mu}{a:Act}{o:Oper}{h:OpHint}{k:LV→S→Mu→Option α}{p:CV→S→Mu→Option α}{r:α}{K:Act→World→Prop}{Q:Exit→Act→World→Prop}
theorem il {G0:Gh}{w0:World}{T0:Nat→Prop}(R:Rel G L s μ a.tmps w)(E:Ext L T0 G0 w0 G w (aB G w s μ a.tmps))(hd: ∀d,o.dst=some d→d<a.tmps.size)
  {ob:Obj} {n:Nat} {v:LV} {cv:Value} (hv:Le G w (G.setO w.heap.size n) (w.alloc ob)→LVR (G.setO w.heap.size n) (w.alloc ob) L s.lam.length v cv) (ho: ∀b,aH v cv b→b=w.heap.size):
  ∃G1,Rel G1 L (s.put o.dst v) μ (a.put o.dst cv).tmps (w.alloc ob)∧Ext L T0 G0 w0 G1 (w.alloc ob) (aB G1 (w.alloc ob) (s.put o.dst v) μ (a.put o.dst cv).tmps):=by
 obtain⟨R1,hO⟩:=R.alloc ob n
 have hT: ∀b,aB (G.setO w.heap.size n) (w.alloc ob) s μ a.tmps b→aB G w s μ a.tmps b:=by
  intro b hb
  rcases hb with⟨l,hb⟩|hb
  ·exact .inl ⟨l,hO l b hb⟩
  ·exact .inr hb
 have E1:Ext L (aB G w s μ a.tmps) G w (G.setO w.heap.size n) (w.alloc ob) (aB (G.setO w.heap.size n) (w.alloc ob) s μ a.tmps):=Ext.alloc ob n fun b hb=> .inl (hT b hb)
 obtain ⟨R2, E2⟩ := cg (dst := o.dst) (v := v) (cv := cv) R1 (E.trans E1) (hv (qv ob n)) (fun b hb => by
  have hb':=ho b hb
  subst hb'
  refine⟨fun l hl=> ?_,fun lev i hl e=> ?_,.inr E.size⟩
  ·have:=R.touch_lt (.inl ⟨l,hO l _ hl⟩)
   omega
  ·have:=R.touch_lt (.inr ⟨lev,i,hl,e⟩)
   omega) hd
 exact⟨_,R2,E2⟩
theorem uX {α:Type}: ∀(l pre mid post:List α),mid.length=l.length→bo (pre++mid++post) pre.length l=pre++l++post
 |[],pre,mid,post,h=>by
  have:mid=[]:=List.eq_nil_of_length_eq_zero (by simpa using h)
  subst this;rfl
 |x::l,pre,mid,post,h=>by
  cases mid with
  |nil=>simp at h
  |cons m mid=>
   simp only[bo]
   have e:(pre++m::mid++post).set pre.length x=(pre++[x])++mid++post:=by simp
   rw[e]
   have:=uX l (pre++[x]) mid post (by simpa using h)
   simp only[List.length_append,List.length_cons,List.length_nil]at this
   rw[this];simp
theorem Be {sz:Nat}: ∀{ps:List (Nat×CV)} {n:Nat} {xs:List CV},un sz n ps=some xs→ ∀pre:List CV,pre.length=n*sz→
  kM (fun i=>some (i*sz,sz)) (pre++List.replicate (xs.length*sz) .undef) ps=some (pre++xs.flatMap CV.cells)∧ ∀x∈xs,x.cells.length=sz
 |[],n,xs,h,pre,hp=>by simp only[un,Option.some.injEq]at h;subst h;simp[kM]
 |(i,c)::ps,n,xs,h,pre,hp=>by
  simp only[un]at h
  split at h<;>try(simp at h;done)
  rename_i hc
  simp only[Bool.and_eq_true]at hc
  have hi:=Nat.eq_of_beq_eq_true hc.1
  have hl:=Nat.eq_of_beq_eq_true hc.2
  obtain⟨ys,h1,h2⟩:=ac.1 h
  simp only[Option.some.injEq]at h2
  subst h2
  subst hi
  obtain⟨ih1,ih2⟩:=Be h1 (pre++c.cells) (by rw[List.length_append,hp,hl,Nat.add_mul];omega)
  refine⟨?_,fun x hx=> ?_⟩
  ·simp only[kM]
   have hlen:(pre++List.replicate ((c::ys).length*sz) CV.undef).length=i*sz+(ys.length+1)*sz:=by simp[hp]
   have hle:Nat.ble (i*sz+sz) (pre++List.replicate ((c::ys).length*sz) CV.undef).length=true:=by
    rw[hlen];exact Nat.ble_eq_true_of_le (by rw[Nat.add_mul ys.length];omega)
   have hb:(Nat.beq c.cells.length sz&&Nat.ble (i*sz+sz) (pre++List.replicate ((c::ys).length*sz) CV.undef).length)=true:=by
    rw[hle,hl];simp[Nat.beq_refl]
   rw[hb]
   have e:pre++List.replicate ((c::ys).length*sz) CV.undef=pre++List.replicate sz CV.undef++List.replicate (ys.length*sz) CV.undef:=by
    rw[List.append_assoc,List.replicate_append_replicate]
    congr 2
    simp only[List.length_cons,Nat.add_mul];omega
   have:=uX c.cells pre (List.replicate sz CV.undef) (List.replicate (ys.length*sz) CV.undef) (by simp[hl])
   rw[hp,←e]at this
   simp only[List.append_assoc]at ih1
   simp only[this,List.flatMap_cons,List.append_assoc]
   exact ih1
  ·rcases List.mem_cons.1 hx with rfl|hx
   ·exact hl
   ·exact ih2 x hx
theorem AN: ∀(vs:List Value),VRL G w (List.replicate vs.length .undef) vs
 |[]=>by simp[VRL]
 |v::r=>by simp only[List.length_cons,List.replicate_succ,VRL];exact⟨v,r,rfl,by simp[VR],AN r⟩
theorem Ab {t e:TypeId}{sz len:Nat}{parts:Array (Nat×Operand)}{ps:List (Nat×CV)}{xs:List CV}{zc:List CV}(R:Rel G L s μ a.tmps w)(hu:P.underlying t=some (.slice e))(hsz:bU P e=some sz)
  (hz:zeroCells P e=some zc) (hp:gS (evA h s.fr) parts.toList=some ps) (hx:un sz 0 ps=some xs) (hlen:xs.length=len) (hsm:len*sz≤10000):
  ∃cur:Array Value,(Instr.buildSlice t len (parts.map fun q=>(q.1,a.eval q.2))).run P w= .ok (.slice (some ⟨w.heap.size,0,none⟩) len len) (w.alloc (.cells cur e))∧
   VRL G w (xs.flatMap CV.cells) cur.toList∧cur.size=len*sz∧ ∀x∈xs,x.cells.length=sz:=by
 obtain⟨z,i,hi,hzi,hzr,hzl⟩:=iv (P:=P) (G:=G) (w:=w) hz
 have hpr:=pt R h hp
 have hparts:(parts.map fun q=>(q.1,a.eval q.2)).toList=parts.toList.map fun q=>(q.1,a.eval q.2):=by simp
 obtain⟨hf,hall⟩:=Be hx [] (by simp)
 simp only[List.nil_append]at hf
 have hfill: ∀zz:Array Value,∃b:Array Value,Instr.fill (fun i=>some (i*sz,sz)) ((Array.range (len*sz)).map (zz[· % zz.size]!)) (parts.toList.map fun q=>(q.1,a.eval q.2))=some b∧VRL G w (xs.flatMap CV.cells) b.toList∧b.size=len*sz:=by
  intro zz
  have hvl:VRL G w (List.replicate (xs.length*sz) CV.undef) ((Array.range (len*sz)).map (zz[· % zz.size]!)).toList:=by
   have:=AN (G:=G) (w:=w) ((Array.range (len*sz)).map (zz[· % zz.size]!)).toList
   rw[show ((Array.range (len*sz)).map (zz[· % zz.size]!)).toList.length=xs.length*sz by simp[hlen]]at this
   exact this
  obtain⟨b,hb,hr,hbs⟩:=rn hpr hvl hf
  exact⟨b,hb,hr,by rw[hbs];simp⟩
 have h24: ¬len*sz>2^24:=by omega
 by_cases h0:len*sz=0
 ·obtain⟨b,hb,hr,hbs⟩:=hfill #[]
  refine⟨b,?_,hr,hbs,hall⟩
  simp only[Instr.buildSlice,Sem.run_bind,run_underlying hu,Result.andThen_ok,db hsz,if_neg h24,if_pos h0,Sem.run_pure,hparts,hb,newRow,run_newObj]
  rfl
 ·obtain⟨b,hb,hr,hbs⟩:=hfill z.cells
  refine⟨b,?_,hr,hbs,hall⟩
  simp only[Instr.buildSlice,Sem.run_bind,run_underlying hu,Result.andThen_ok,db hsz,if_neg h24,if_neg h0,hzr,Sem.run_pure,hparts,hb,newRow,run_newObj]
  rfl
theorem Db {t e:TypeId}{len sz:Nat}{parts:Array (Nat×Operand)}{ps:List (Nat×CV)}{xs zc:List CV}(ho:o.op= .buildSlice t len parts)(R:Rel G L s μ a.tmps w)(hd: ∀d,o.dst=some d→d<a.tmps.size)(hk:KOK L G w s μ a o.dst k r K)
  (hu:P.underlying t=some (.slice e)) (hsz:bU P e=some sz) (hby:j3 P e=true) (hz:zeroCells P e=some zc) (hp:gS (evA h s.fr) parts.toList=some ps) (hx:un sz 0 ps=some xs) (hlen:xs.length=len) (hsm:len*sz≤10000) (hbt:(Nat.beq e 5||fZ xs)=true)
  (hop : (match h.arr with
   |false=>k (.osl xs) (ab h.take s) μ
   |true=>k (.lsl (ab h.take s).lam.length 0 len) {ab h.take s with lam:=(ab h.take s).lam++[.arr sz (xs.flatMap CV.cells)]} μ)=some r):o.wp P a w K Q:=by
 obtain⟨R1,E1,hO⟩:=cH R h.take
 obtain⟨cur,hrun,hl,hcs,hall⟩:=Ab R hu hsz hz hp hx hlen hsm
 have hrun':(execOp a.eval o).run P w= .ok (.value (.slice (some ⟨w.heap.size,0,none⟩) len len)) (w.alloc (.cells cur e)):=by
  simp only[execOp,ho]
  exact cB hrun
 have hsz1:1≤sz:=by
  unfold j3 at hby
  unfold bU at hsz
  split at hby<;>try(simp at hby;done)
  rename_i i hi
  rw[hi]at hsz
  simp only[Option.some.injEq,Bool.and_eq_true]at hsz hby
  have:=Nat.le_of_ble_eq_true hby.2
  omega
 have hlm:len≤10000:=Nat.le_trans (Nat.le_mul_of_pos_right len hsz1) hsm
 split at hop
 ·obtain ⟨G1, R2, E2⟩ := il (o := o) (n := len * sz) (ob := .cells cur e) (v := .osl xs) (cv := .slice (some ⟨w.heap.size, 0, none⟩) len len) R1 E1 hd (fun hle => by
   simp only[LVR]
   refine .inr ⟨w.heap.size,len,cur,e,sz,by rw[hlen],heap_alloc_new w _,by omega,by unfold maxLen;omega,by omega,hall,fun h0=>by subst h0;simpa using hlen.symm,?_,by rw[cP,hlen],AY hbt⟩
   obtain⟨hlen2,hg⟩:=dp hl
   refine EL_of (vs:=cur.toList) hall (e8 hlen2 fun j c v hc hv=> ?_) fun j v hv=> ?_
   ·obtain⟨v',hv',hr⟩:=hg j c hc
    rw[hv]at hv'
    injection hv' with hv'
    subst hv'
    exact bi hle c v hr
   ·have hj:j<cur.size:=by have:=(List.getElem?_eq_some_iff.1 hv).1;simpa using this
    rw[Nat.zero_add,cP]
    refine⟨?_,by omega⟩
    rw[cell_of_heap (heap_alloc_new w (.cells cur e)) hj]
    rw[Array.getElem?_toList]at hv
    simp[Array.getD_eq_getD_getElem?,hv]) (fun b hb=>by simpa[aH]using hb.symm)
  exact cm hrun' (hk _ _ μ _ _ G1 hop R2 E2)
 ·obtain ⟨G1, R2, E2⟩ := im (o := o) (kk := sz) (e := e) R1 E1 hd (kg cur) (ob := .arr sz (xs.flatMap CV.cells)) (.inr ⟨_, rfl, by have := VRL_len hl; simp at this ⊢; omega, fun j x hx => by
    obtain⟨v,hv,hr⟩:=(dp hl).2 j x hx
    have:cur.getD j undef=v:=by
     rw[Array.getElem?_toList]at hv
     simp[Array.getD_eq_getD_getElem?,hv]
    rw[this];exact hr⟩)
   (fun cs' j b he hc => by cases he) (v := .lsl (ab h.take s).lam.length 0 len) (cv := .slice (some ⟨w.heap.size, 0, none⟩) len len) (fun G1 w1 hG hw => by
    subst hG;subst hw
    simp only[LVR]
    refine⟨by omega,len,cur,e,(0,0),by simp[Gh.setL],Nat.le_refl _,by unfold maxLen;omega,?_,?_⟩
    ·simp only[Gh.setL,and_self,if_true];exact heap_alloc_new w _
    ·simp only[Gh.setL,and_self,if_true];omega) (fun b hb=>by simp[aH]at hb)
  exact cm hrun' (hk _ _ μ _ _ G1 hop R2 E2)
theorem U4 {e:TypeId}{x:Operand}(ho:o.op= .box e x)(R:Rel G L s μ a.tmps w)(hd: ∀d,o.dst=some d→d<a.tmps.size)(hk:KOK L G w s μ a o.dst k r K)
  (hop:opt (bP (evA h s.fr x)) (fun c=>ax (ol (bD P e) c) (k (.cv (.view (kF (bD P e) c))) (ab h.take s) μ))=some r):o.wp P a w K Q:=by
 obtain⟨c,h1,hop⟩:=ac.1 hop
 obtain⟨h2,hop⟩:=aF.1 hop
 obtain⟨e1,e2⟩:=rT h2
 rw[e2]at hop
 obtain⟨R1,E1,hO⟩:=cH R h.take
 have hv:=ew h1 (aX R h x).1
 obtain⟨hl,hone⟩:=iz e1 hv
 obtain⟨hlen,hg⟩:=dp hl
 obtain ⟨G1, R2, E2⟩ := il (o := o) (n := (a.eval x).cells.size) (ob := .cells (a.eval x).cells e) (v := .cv (.view c.cells)) (cv := .pointer (some ⟨w.heap.size, 0, none⟩)) R1 E1 hd (fun hle => by
   simp only[LVR,VR]
   refine⟨w.heap.size,0,rfl,CL_of fun j y hy=> ?_⟩
   obtain⟨u,hu,hr⟩:=hg j y hy
   have hj:j<(a.eval x).cells.size:=by have:=(List.getElem?_eq_some_iff.1 hu).1;simpa using this
   refine⟨u,?_,by rw[cP];omega,bi hle y u hr⟩
   rw[Nat.zero_add,cell_of_heap (heap_alloc_new w _) hj]
   rw[Array.getElem?_toList]at hu
   simp[Array.getD_eq_getD_getElem?,hu]) (fun b hb=>by simp[aH]at hb)
 refine cm ?_ (hk _ _ μ _ _ G1 hop R2 E2)
 simp only[execOp,ho]
 refine cB ?_
 simp[Instr.box,newVar,newRow]
theorem xG {α:Type}(z:List α): ∀n,(gv n z).length=n*z.length
 |0=>by simp[gv]
 |n+1=>by
  have:=xG z n
  simp only[gv,List.replicate_succ,List.flatten_cons,List.length_append]at this ⊢
  rw[this,Nat.add_mul];omega
theorem Fq {α:Type}(z:List α)(hz:0<z.length): ∀(n j:Nat),j<n*z.length→(gv n z)[j]? =z[j % z.length]?
 |0,j,h=>by simp at h
 |n+1,j,h=>by
  have e:gv (n+1) z=z++gv n z:=by simp[gv,List.replicate_succ]
  rw[e]
  by_cases hj:j<z.length
  ·rw[List.getElem?_append_left hj,Nat.mod_eq_of_lt hj]
  ·rw[List.getElem?_append_right (by omega),Fq z hz n (j-z.length) (by rw[Nat.add_mul]at h;omega)]
   congr 1
   conv=>rhs;rw[show j=j-z.length+z.length by omega,Nat.add_mod_right]
theorem FZ {t:TypeId}{l c:Operand}(ho:o.op= .makeSlice t l c)(hsame:AH l c=true)(R:Rel G L s μ a.tmps w)(hd: ∀d,o.dst=some d→d<a.tmps.size)(hk:KOK L G w s μ a o.dst k r K)
  (hop:yY P t (evA h s.fr l) (ab h.take s) μ k=some r):o.wp P a w K Q:=by
 have hlc:l=c:=by
  unfold AH at hsame
  split at hsame
  ·rw[Nat.eq_of_beq_eq_true hsame]
  ·cases hsame
 subst hlc
 unfold yY at hop
 split at hop<;>try(simp at hop;done)
 rename_i e hu
 obtain⟨sz,hsz,hop⟩:=ac.1 hop
 obtain⟨hby,hop⟩:=aF.1 hop
 obtain⟨zc,hz,hop⟩:=ac.1 hop
 obtain⟨hzl,hop⟩:=aF.1 hop
 obtain⟨n,hn,hop⟩:=ac.1 hop
 obtain⟨hg,hop⟩:=aF.1 hop
 simp only[Bool.and_eq_true,decide_eq_true_eq]at hg
 have hzl:=Nat.eq_of_beq_eq_true hzl
 obtain⟨kk,hni⟩:=mq hn
 have hv:=co R hni
 simp only[VR]at hv
 obtain⟨i,hi,his⟩:=zA hsz
 obtain⟨z,i',hi',hiz,hzr,hzv⟩:=iv (P:=P) (G:=G) (w:=w) hz
 rw[hi]at hi'
 injection hi' with hi'
 subst hi'
 have hbb:i.bytes≤128∧1≤i.size:=by
  unfold j3 at hby
  rw[hi]at hby
  simp only[Bool.and_eq_true]at hby
  exact⟨Nat.le_of_ble_eq_true hby.1,Nat.le_of_ble_eq_true hby.2⟩
 have hzs:z.cells.size=sz:=by have:=VRL_len hzv;simp at this;omega
 have hrun:=run_makeSlice (P:=P) w t e i z hu hi hiz kk kk n n hg.1 (Int.le_refl n)
 obtain⟨R1,E1,hO⟩:=cH R h.take
 have hl:=aQ h.take s
 have hms:n.toNat*i.size=n.toNat*sz:=by rw[his]
 have hrun':(execOp a.eval o).run P w= .ok (.value (.slice (some ⟨w.heap.size,0,none⟩) n.toNat n.toNat)) (w.alloc (.cells (madeCells z.cells (n.toNat*sz)) e)):=by
  simp only[execOp,ho,hv]
  refine cB ?_
  have hb0:(i.bytes:Int)*n≤128*1000000000:=Int.mul_le_mul (by omega) hg.2 hg.1 (by omega)
  rw[←hms]
  exact run_make w t e i z hu hi hiz kk kk n n hg.1 (Int.le_refl n) (by omega) (by omega)
 have hget: ∀(j:Nat) x,(gv n.toNat zc)[j]? =some x→VR G w x ((madeCells z.cells (n.toNat*sz)).getD j undef):=by
  intro j x hx
  have hj:j<(gv n.toNat zc).length:=(List.getElem?_eq_some_iff.1 hx).1
  rw[xG,hzl]at hj
  have hzp:0<zc.length:=by omega
  rw[Fq zc hzp _ _ (by rw[hzl];exact hj),hzl]at hx
  obtain⟨v,hv1,hv2⟩:=(dp hzv).2 _ x hx
  rw[Array.getElem?_toList]at hv1
  have hm:(madeCells z.cells (n.toNat*sz)).getD j undef=v:=by
   have hjs:j % sz<z.cells.size:=by rw[hzs];exact Nat.mod_lt _ (by omega)
   have:z.cells[j % sz]! =v:=by
    rw[getElem!_pos z.cells (j % sz) hjs]
    rw[Array.getElem?_eq_getElem hjs]at hv1
    exact Option.some.inj hv1
   have h2:(madeCells z.cells (n.toNat*sz))[j]? =some (z.cells[j % z.cells.size]!):=by simp[madeCells,hj]
   rw[Array.getD_eq_getD_getElem?,h2,hzs]
   exact this
  rw[hm]
  exact hv2
 obtain⟨G1,R2,E2⟩:=im (o:=o) (kk:=sz) (e:=e) R1 E1 hd (kg (madeCells z.cells (n.toNat*sz))) (ob:= .arr sz (gv n.toNat zc)) (.inr ⟨_,rfl,by rw[xG,hzl,size_madeCells];exact Nat.le_refl _,hget⟩)
   (fun cs' j b he hc => by cases he) (v := .lsl (ab h.take s).lam.length 0 n.toNat) (cv := .slice (some ⟨w.heap.size, 0, none⟩) n.toNat n.toNat) (fun G1 w1 hG hw => by
    subst hG;subst hw
    simp only[LVR]
    refine⟨by omega,n.toNat,madeCells z.cells (n.toNat*sz),e,(0,0),by simp[Gh.setL],Nat.le_refl _,by unfold maxLen;omega,?_,?_⟩
    ·simp only[Gh.setL,and_self,if_true];exact heap_alloc_new w _
    ·simp only[Gh.setL,and_self,if_true,size_madeCells];omega) (fun b hb=>by simp[aH]at hb)
 exact cm hrun' (hk _ _ μ _ _ G1 hop R2 E2)
theorem K9 (c:Array Value)(e:TypeId):((w.alloc (.cells c e)).freeze ⟨w.heap.size,c.size,none⟩ 1)=w.alloc (.cells c e (c.size,c.size+1)):=by
 simp only[World.freeze,World.alloc,Nat.one_ne_zero,if_false]
 congr 1
 apply Array.ext
 ·simp
 ·intro i h1 h2
  simp only[Array.getElem_modify]
  by_cases hi:w.heap.size=i
  ·subst hi
   simp
  ·simp only[hi,if_false]
   have:i<w.heap.size:=by simp at h2;omega
   simp[Array.getElem_push,this]
def eP (l:List UInt8):List Value:=l.map fun b=> .int .u8 (b.toNat:Int)
def je (l:List UInt8)(n:Nat):Array Value:=(eP l++List.replicate n (Value.int .u8 0)).toArray
theorem C9 (l:List UInt8)(n:Nat):(je l n).size=l.length+n:=by simp[je,eP]
theorem FF {src dst e:TypeId}{l:List UInt8}(hu:P.underlying dst=some (.slice e))(hue:P.underlying e=some (.int .u8))(hs:P.underlying src=some .string)(hl:l.length≤1099511627776):
  ∃(cap:Nat) (cur:Array Value),(convert src dst (.string ⟨⟨l⟩⟩)).run P w= .ok (.slice (some ⟨w.heap.size,0,none⟩) l.length cap) (w.drew.alloc (.cells cur e (cur.size,cur.size+1)))∧
   l.length≤cap∧cap≤maxLen∧cur.size=cap∧ ∀(j:Nat) b,l[j]? =some b→cur.getD j undef= .int .u8 (b.toNat:Int):=by
 have hge:=grownCap_ge w l.length 0 e
 have hle:=grownCap_le_maxLen w l.length 0 e (by unfold maxLen;omega)
 refine⟨grownCap w l.length 0 e,je l (grownCap w l.length 0 e-l.length),?_,hge,hle,by rw[C9];omega,?_⟩
 ·simp only[convert,Sem.run_bind,run_underlying hu,run_underlying hue,run_underlying hs,Result.andThen_ok,Conv.stringToBytes,run_choose,Question.forced,Bool.false_eq_true,if_false]
  have hsz:(⟨⟨l⟩⟩:ByteArray).size=l.length:=rfl
  rw[hsz]
  have hg:Question.cut (Question.appendCap l.length 0 e) (w.tape w.drawn (Question.appendCap l.length 0 e))=grownCap w l.length 0 e:=rfl
  rw[hg]
  have harr:(Array.map (fun(b:UInt8)=>Value.int .u8 (b.toNat:Int)) (⟨⟨l⟩⟩:ByteArray).data++Array.replicate (grownCap w l.length 0 e-l.length) (Value.int .u8 0))=
    je l (grownCap w l.length 0 e-l.length):=by
   apply Array.ext'
   simp[je,eP]
  simp only[harr,newRow,Sem.run_bind,run_newObj,Result.andThen_ok,Sem.run_pure,markStringish,run_shape,World.alloc_eq,World.drew_eq,World.size_drew]
  have hsh:(w.drew.alloc (.cells (je l (grownCap w l.length 0 e-l.length)) e)).shape? w.heap.size=some (e,(je l (grownCap w l.length 0 e-l.length)).size):=by
   simp only[World.shape?]
   rw[show w.heap.size=w.drew.heap.size from rfl,heap_alloc_new]
  simp only[hsh,Sem.run_bind,run_freeze,Result.andThen_ok,Sem.run_pure]
  have:=K9 (w:=w.drew) (je l (grownCap w l.length 0 e-l.length)) e
  rw[show w.drew.heap.size=w.heap.size from rfl]at this
  rw[this]
 ·intro j b hb
  have hj:j<l.length:=(List.getElem?_eq_some_iff.1 hb).1
  have hj':(eP l)[j]? =some (Value.int .u8 (b.toNat:Int)):=by simp[eP,hb]
  have hjl:j<(eP l).length:=by simpa[eP]using hj
  simp only[je,Array.getD_eq_getD_getElem?,List.getElem?_toArray,List.getElem?_append_left hjl,hj',Option.getD_some]
theorem ri: ∀l:List UInt8,(l.map fun(b:UInt8)=>CV.v (.int .u8 (b.toNat:Int))).flatMap CV.cells=l.map fun(b:UInt8)=>CV.v (.int .u8 (b.toNat:Int))
 |[]=>rfl
 |b::l=>by simp only[List.map_cons,List.flatMap_cons,ri l,CV.cells];rfl
theorem KX {src dst e:TypeId}{x:Operand}{l:List UInt8}(ho:o.op= .convert src dst x)(R:Rel G L s μ a.tmps w)(hd: ∀d,o.dst=some d→d<a.tmps.size)(hk:KOK L G w s μ a o.dst k r K)
  (hu:P.underlying dst=some (.slice e)) (hue:P.underlying e=some (.int .u8)) (hs:P.underlying src=some .string) (he:evA h s.fr x=LV.str l) (hsm:bC l.length=true)
  (hop : (match h.arr with
    |true=>k (.lsl (ab h.take s).lam.length 0 l.length) {ab h.take s with lam:=(ab h.take s).lam++[.arr 1 (l.map fun b=> .v (.int .u8 (b.toNat:Int)))]} μ
    |false=>k (.cv (.sl (l.map fun b=> .v (.int .u8 (b.toNat:Int))))) (ab h.take s) μ)=some r):o.wp P a w K Q:=by
 obtain⟨R1,E1,hO⟩:=cH R h.take
 have hv:=co R he
 simp only[VR]at hv
 simp only[bC,decide_eq_true_eq]at hsm
 obtain⟨cap,cur,hrun,h1,h2,h3,h4⟩:=FF (P:=P) (w:=w) hu hue hs hsm
 have hrun':(execOp a.eval o).run P w= .ok (.value (.slice (some ⟨w.heap.size,0,none⟩) l.length cap)) (w.drew.alloc (.cells cur e (cur.size,cur.size+1))):=by
  simp only[execOp,ho,hv]
  exact cB hrun
 obtain⟨R2,hO2⟩:=R1.drew
 have E2:Ext L (aB G w s μ a.tmps) G w G w.drew (aB G w.drew (ab h.take s) μ a.tmps):=by
  refine E1.drew.weaken (fun _ h=>h) fun b hb=> ?_
  rcases hb with⟨l,hb⟩|hb
  ·exact .inl ⟨l,hO2 l b hb⟩
  ·exact .inr hb
 have hfz:ec cur (cur.size,cur.size+1):=fun j hj h=>by simp at h;omega
 have hcells: ∀(j:Nat) c,(l.map fun(b:UInt8)=>CV.v (.int .u8 (b.toNat:Int)))[j]? =some c→ ∃b,l[j]? =some b∧c= .v (.int .u8 (b.toNat:Int)):=by
  intro j c hc
  simp only[List.getElem?_map,Option.map_eq_some_iff]at hc
  obtain⟨b,hb,rfl⟩:=hc
  exact⟨b,hb,rfl⟩
 split at hop
 ·obtain ⟨G1, R3, E3⟩ := im (o := o) (kk := 1) (e := e) R2 E2 hd hfz (ob := .arr 1 (l.map fun b => .v (.int .u8 (b.toNat : Int)))) (.inr ⟨_, rfl, by simp; omega, fun j x hx => by
    obtain⟨b,hb,rfl⟩:=hcells j x hx
    simp only[VR]
    exact h4 j b hb⟩)
   (fun cs' j b he hc => by cases he) (v := .lsl (ab h.take s).lam.length 0 l.length) (cv := .slice (some ⟨w.heap.size, 0, none⟩) l.length cap) (fun G1 w1 hG hw => by
    subst hG;subst hw
    simp only[LVR]
    refine⟨by omega,cap,cur,e,(cur.size,cur.size+1),by simp[Gh.setL],h1,h2,?_,?_⟩
    ·simp only[Gh.setL,and_self,if_true];exact heap_alloc_new w.drew _
    ·simp only[Gh.setL,and_self,if_true];omega) (fun b hb=>by simp[aH]at hb)
  exact cm hrun' (hk _ _ μ _ _ G1 hop R3 E3)
 ·obtain ⟨G1, R3, E3⟩ := il (o := o) (n := cur.size) (ob := .cells cur e (cur.size, cur.size + 1)) (v := .cv (.sl (l.map fun b => .v (.int .u8 (b.toNat : Int))))) (cv := .slice (some ⟨w.heap.size, 0, none⟩) l.length cap) R2 E2 hd (fun hle => by
   simp only[LVR,VR]
   refine⟨_,l.length,cap,rfl,by simp,h1,.inr ⟨w.heap.size,0,1,rfl,fun x hx=> ?_,?_⟩⟩
   ·obtain⟨b,_,rfl⟩:=List.mem_map.1 hx;rfl
   ·have hflat:=ri l
    refine EL_of (vs:=(List.range l.length).map fun j=>cur.getD j undef) (fun x hx=>by obtain⟨b,_,rfl⟩:=List.mem_map.1 hx;rfl) ?_ fun j v hv=> ?_
    ·rw[hflat]
     refine e8 (by simp) fun j c v hc hv=> ?_
     obtain⟨b,hb,rfl⟩:=hcells j c hc
     have hj:j<l.length:=(List.getElem?_eq_some_iff.1 hb).1
     simp only[List.getElem?_map,List.getElem?_range hj,Option.map_some,Option.some.injEq]at hv
     simp only[VR]
     rw[←hv];exact h4 j b hb
    ·have hj:j<l.length:=by have:=(List.getElem?_eq_some_iff.1 hv).1;simpa using this
     simp only[List.getElem?_map,List.getElem?_range hj,Option.map_some,Option.some.injEq]at hv
     rw[Nat.zero_add,←hv]
     refine⟨cell_of_heap (heap_alloc_new w.drew _) (by omega),?_⟩
     rw[show w.heap.size=w.drew.heap.size from rfl,cP];omega) (fun b hb=>by simp[aH]at hb)
  exact cm hrun' (hk _ _ μ _ _ G1 hop R3 E3)
end
end Go.Abs
set_option linter.unusedVariables false
set_option linter.unusedSimpArgs false
namespace Go.Abs
open Go
def Gh.cut (G:Gh)(m:Nat):Gh:={G with n:=fun l=>if l<m then G.n l else 0}
section
variable {G:Gh}{w:World}{lev m:Nat}
theorem bf {n:Nat}{c:CV}{r:List CV}(h:b7 n (c::r)=true):below n c=true∧b7 n r=true:=by
 simp only[b7]at h
 split at h
 ·exact⟨by assumption,h⟩
 ·simp at h
mutual
theorem d5: ∀(c:CV) (v:Value),below m c=true→VR G w c v→VR (G.cut m) w c v
 | .undef,v,_,_=>by simp[VR]
 | .v x,v,_,hv=>by simpa[VR]using hv
 | .agg cs,v,hb,hv=>by
  simp only[VR,below]at hv hb ⊢
  obtain⟨vs,e,hl⟩:=hv
  exact⟨vs,e,pM cs _ hb hl⟩
 | .sl xs,v,hb,hv=>by
  simp only[VR,below]at hv hb ⊢
  obtain⟨A,len,cap,e,h1,h2,h3⟩:=hv
  refine⟨A,len,cap,e,h1,h2,h3.imp id ?_⟩
  rintro⟨b,off,s,e1,hs,hl⟩
  exact⟨b,off,s,e1,hs,fw b s off xs hb hl⟩
 | .view cs,v,hb,hv=>by
  simp only[VR,below]at hv hb ⊢
  obtain⟨b,off,e,hl⟩:=hv
  exact⟨b,off,e,Cn b off cs hb hl⟩
 | .ref l i off,v,hb,hv=>by
  simp only[VR,below,decide_eq_true_eq]at hv hb ⊢
  exact⟨by simp only[Gh.cut];rw[if_pos hb];exact hv.1,hv.2⟩
 | .msl l i off len,v,hb,hv=>by
  simp only[VR,below,decide_eq_true_eq]at hv hb ⊢
  exact⟨by simp only[Gh.cut];rw[if_pos hb];exact hv.1,hv.2⟩
 | .mview ks vs,v,hb,hv=>by
  simp only[VR,below]at hv hb ⊢
  obtain⟨r,es,clk,e,h1,h2,h3,h4⟩:=hv
  exact⟨r,es,clk,e,h1,h2,h3,pM vs _ hb h4⟩
 | .mref l i,v,hb,hv=>by
  simp only[VR,below,decide_eq_true_eq]at hv hb ⊢
  exact⟨by simp only[Gh.cut];rw[if_pos hb];exact hv.1,hv.2⟩
 | .tref l i t n,v,hb,hv=>by
  simp only[VR,below,decide_eq_true_eq]at hv hb ⊢
  exact⟨by simp only[Gh.cut];rw[if_pos hb];exact hv.1,hv.2⟩
 | .clo f caps,v,hb,hv=>by
  simp only[VR,below]at hv hb ⊢
  obtain⟨vs,e,hl⟩:=hv
  exact⟨vs,e,pM caps _ hb hl⟩
 | .iface t x,v,hb,hv=>by
  simp only[VR,below]at hv hb ⊢
  obtain⟨u,e,hl⟩:=hv
  exact⟨u,e,d5 x u hb hl⟩
theorem pM: ∀(cs:List CV) (vs:List Value),b7 m cs=true→VRL G w cs vs→VRL (G.cut m) w cs vs
 |[],vs,_,hv=>by simpa[VRL]using hv
 |c::cs,vs,hb,hv=>by
  simp only[VRL]at hv ⊢
  obtain⟨v,r,e,h1,h2⟩:=hv
  exact⟨v,r,e,d5 c v (bf hb).1 h1,pM cs r (bf hb).2 h2⟩
theorem Cn (b:Nat): ∀(off:Nat) (cs:List CV),b7 m cs=true→CL G w b off cs→CL (G.cut m) w b off cs
 |_,[],_,_=>by simp[CL]
 |off,c::cs,hb,hv=>by
  simp only[CL]at hv ⊢
  obtain⟨⟨v,hc,ho,h1⟩,h2⟩:=hv
  exact⟨⟨v,hc,ho,d5 c v (bf hb).1 h1⟩,Cn _ (off+1) cs (bf hb).2 h2⟩
theorem fw (b s:Nat): ∀(off:Nat) (cs:List CV),b7 m cs=true→EL G w b s off cs→EL (G.cut m) w b s off cs
 |_,[],_,_=>by simp[EL]
 |off,.agg cs::r,hb,hv=>by
  simp only[EL]at hv ⊢
  exact⟨Cn b off cs (by simpa[below]using(bf hb).1) hv.1,fw b s (off+s) r (bf hb).2 hv.2⟩
 |off,.undef::r,hb,hv=>by
  simp only[EL]at hv ⊢
  obtain⟨⟨v,hc,ho,h1⟩,h2⟩:=hv
  exact⟨⟨v,hc,ho,by simp[VR]⟩,fw _ s (off+s) r (bf hb).2 h2⟩
 |off,.v x::r,hb,hv=>by
  simp only[EL]at hv ⊢
  obtain⟨⟨v,hc,ho,h1⟩,h2⟩:=hv
  exact⟨⟨v,hc,ho,d5 (.v x) v (bf hb).1 h1⟩,fw _ s (off+s) r (bf hb).2 h2⟩
 |off,.sl x::r,hb,hv=>by
  simp only[EL]at hv ⊢
  obtain⟨⟨v,hc,ho,h1⟩,h2⟩:=hv
  exact⟨⟨v,hc,ho,d5 (.sl x) v (bf hb).1 h1⟩,fw _ s (off+s) r (bf hb).2 h2⟩
 |off,.view x::r,hb,hv=>by
  simp only[EL]at hv ⊢
  obtain⟨⟨v,hc,ho,h1⟩,h2⟩:=hv
  exact⟨⟨v,hc,ho,d5 (.view x) v (bf hb).1 h1⟩,fw _ s (off+s) r (bf hb).2 h2⟩
 |off,.ref x y z::r,hb,hv=>by
  simp only[EL]at hv ⊢
  obtain⟨⟨v,hc,ho,h1⟩,h2⟩:=hv
  exact⟨⟨v,hc,ho,d5 (.ref x y z) v (bf hb).1 h1⟩,fw _ s (off+s) r (bf hb).2 h2⟩
 |off,.msl x y z l::r,hb,hv=>by
  simp only[EL]at hv ⊢
  obtain⟨⟨v,hc,ho,h1⟩,h2⟩:=hv
  exact⟨⟨v,hc,ho,d5 (.msl x y z l) v (bf hb).1 h1⟩,fw _ s (off+s) r (bf hb).2 h2⟩
 |off,.mview x y::r,hb,hv=>by
  simp only[EL]at hv ⊢
  obtain⟨⟨v,hc,ho,h1⟩,h2⟩:=hv
  exact⟨⟨v,hc,ho,d5 (.mview x y) v (bf hb).1 h1⟩,fw _ s (off+s) r (bf hb).2 h2⟩
 |off,.mref x y::r,hb,hv=>by
  simp only[EL]at hv ⊢
  obtain⟨⟨v,hc,ho,h1⟩,h2⟩:=hv
  exact⟨⟨v,hc,ho,d5 (.mref x y) v (bf hb).1 h1⟩,fw _ s (off+s) r (bf hb).2 h2⟩
 |off,.tref x y t n::r,hb,hv=>by
  simp only[EL]at hv ⊢
  obtain⟨⟨v,hc,ho,h1⟩,h2⟩:=hv
  exact⟨⟨v,hc,ho,d5 (.tref x y t n) v (bf hb).1 h1⟩,fw _ s (off+s) r (bf hb).2 h2⟩
 |off,.clo f x::r,hb,hv=>by
  simp only[EL]at hv ⊢
  obtain⟨⟨v,hc,ho,h1⟩,h2⟩:=hv
  exact⟨⟨v,hc,ho,d5 (.clo f x) v (bf hb).1 h1⟩,fw _ s (off+s) r (bf hb).2 h2⟩
 |off,.iface t x::r,hb,hv=>by
  simp only[EL]at hv ⊢
  obtain⟨⟨v,hc,ho,h1⟩,h2⟩:=hv
  exact⟨⟨v,hc,ho,d5 (.iface t x) v (bf hb).1 h1⟩,fw _ s (off+s) r (bf hb).2 h2⟩
end
theorem tX:G.below lev=G.cut (lev+1):=by
 simp only[Gh.below,Gh.cut,Nat.lt_succ_iff]
theorem CU (c:CV)(v:Value)(hb:below (lev+1) c=true)(h:VR G w c v):VR (G.below lev) w c v:=by
 rw[tX];exact d5 c v hb h
theorem Qs (b s off:Nat)(cs:List CV)(hb:b7 (lev+1) cs=true)(h:EL G w b s off cs):EL (G.below lev) w b s off cs:=by
 rw[tX];exact fw b s off cs hb h
theorem AL {xs:List CV}{v:Value}(hb:b7 m xs=true)(h:km G w xs v):km (G.cut m) w xs v:=by
 rcases h with h|⟨b,cap,cur,e,s,h1,h2,h3,h4,h5,h6,h7,h8,h9,h10⟩
 ·exact .inl h
 ·exact .inr ⟨b,cap,cur,e,s,h1,h2,h3,h4,h5,h6,h7,fw b s 0 xs hb h8,h9,h10⟩
theorem FO {xs:List CV}{v:Value}(hb:b7 (lev+1) xs=true)(h:km G w xs v):km (G.below lev) w xs v:=by
 rcases h with h|⟨b,cap,cur,e,s,h1,h2,h3,h4,h5,h6,h7,h8,h9,h10⟩
 ·exact .inl h
 ·exact .inr ⟨b,cap,cur,e,s,h1,h2,h3,h4,h5,h6,h7,Qs b s 0 xs hb h8,h9,h10⟩
theorem M4 {L nl nl':Nat}{x:LV}{v:Value}(hb:AC lev x=true)(h:LVR G w L nl x v):LVR (G.below lev) w lev nl' x v:=by
 cases x<;>simp only[AC,Bool.false_eq_true]at hb<;>simp only[LVR]at h ⊢
 ·exact CU _ _ hb h
 ·exact FO hb h
end
section
variable {P:Program}{ρ:Rho}{α:Type}{L:Nat}{G:Gh}{w:World}{s:S}{μ:Mu}{a:Act}{o:Oper}{h:OpHint}{k:LV→S→Mu→Option α}{p:CV→S→Mu→Option α}{r:α}{K:Act→World→Prop}{Q:Exit→Act→World→Prop}
theorem Mx {x:Sem Unit}{w':World}(h:x.run P w= .ok () w'):(do x;pure Next.skip:Sem Next).run P w= .ok .skip w':=by
 rw[Sem.run_bind,h];rfl
theorem gT {cur:Array Value}{off:Nat}{vs:List Value}{j:Nat}(h:off+vs.length≤cur.size)(hj:j<vs.length):(bL cur off vs).getD (off+j) undef=vs.getD j undef:=by
 have:=uQ vs off cur j h hj
 simp only[Array.getD_eq_getD_getElem?,List.getD_eq_getElem?_getD,this]
theorem eE {cur:Array Value}{off:Nat}{vs:List Value}{j:Nat}(h:j<off∨off+vs.length≤j):(bL cur off vs).getD j undef=cur.getD j undef:=by
 simp only[Array.getD_eq_getD_getElem?]
 rcases h with h|h
 ·rw[la vs off cur j h]
 ·rw[od vs off cur j h]
theorem sn {n:Nat}{c:CV}(h:df n c=true):c.cells.length=n∧eJ c=true:=by
 simp only[df,Bool.and_eq_true]at h
 exact⟨Nat.eq_of_beq_eq_true h.1,h.2⟩
def obW (b:Bool)(n:Nat)(o:Ob)(off:Nat)(v:LV):Option Ob:=
 match o with
 | .cells cs=>opt (nM b v) fun vs=>match Nat.beq vs.length n&&Nat.ble (off+n) cs.length with
  |true=>some (.cells (bo cs off vs))
  |false=>none
 | .arr sz cs=>opt (bP v) fun c=>match df n c&&Nat.ble (off+n) cs.length with
  |true=>some (.arr sz (bo cs off c.cells))
  |false=>none
 | .dead=>none
 | .map _ _=>none
theorem PQ {P:Program}{t:TypeId}{o o':Ob}{off:Nat}{v:LV}(h:dY P t o off v=some o'): ∃n,bU P t=some n∧obW (bD P t) n o off v=some o':=by
 cases o with
 |dead=>cases h
 |map ks vs=>cases h
 |cells cs=>
  simp only[dY]at h
  obtain⟨vs,h1,h⟩:=ac.1 h
  obtain⟨n,h2,h⟩:=ac.1 h
  exact⟨n,h2,ac.2 ⟨vs,h1,h⟩⟩
 |arr sz cs=>
  simp only[dY]at h
  obtain⟨c,h1,h⟩:=ac.1 h
  obtain⟨n,h2,h⟩:=ac.1 h
  exact⟨n,h2,ac.2 ⟨c,h1,h⟩⟩
theorem Rel.writeW {G0:Gh}{w0:World}{tm:Array Value}{T0:Nat→Prop}{s1:S}{μ1:Mu}{lev i off:Nat}{ob o':Ob}{v:LV}{cv:Value}{bb:Bool}{n:Nat}(R:Rel G L s μ tm w)
  (E:Ext L T0 G0 w0 G w (aB G w s μ tm)) (hob:aE (μ++[s.lam]) lev i=ob) (hw:obW bb n ob off v=some o')
  (hv:(lev=L→LVR G w L s.lam.length v cv)∧(lev<L→LVR (G.below lev) w lev 0 v cv))
  (hown: ∀b,aH v cv b→(∀l,¬ay G w s.fr tm (μ++[s.lam]) l b)∧(∀lev i,aK (aE (μ++[s.lam]) lev i)→G.β lev i≠b)∧(T0 b∨w0.heap.size≤b))
  (hfr:s1.fr=s.fr) (hp:s1.pushed=s.pushed) (hlen:s1.lam.length=s.lam.length) (hμlen:μ1.length=μ.length) (hH:μ1++[s1.lam]=bj (μ++[s.lam]) lev i o'):
  ∃w',cv.cells.size=n∧(storeCells ⟨G.β lev i,off,none⟩ cv.cells.toList).run P w= .ok () w'∧Rel G L s1 μ1 tm w'∧Ext L T0 G0 w0 G w' (aB G w' s1 μ1 tm):=by
 have hl:aK (aE (μ++[s.lam]) lev i):=by
  rw[hob]
  cases ob<;>first|trivial|simp[obW]at hw
 have hlvl:lev=L∨lev<L:=by rcases cG R.lev hl with⟨h1,_⟩|⟨h1,_⟩<;>omega
 have hobr:(lev=L→ObR G w L s.lam.length (G.β lev i) (G.sz lev i) ob)∧(lev<L→ObR (G.below lev) w lev 0 (G.β lev i) (G.sz lev i) ob):=by
  rcases cG R.lev hl with⟨h1,h2⟩|⟨rfl,h1,h2⟩
  ·refine⟨fun e=>by omega,fun _=> ?_⟩
   rw[←hob,h2];exact R.mu lev i h1
  ·refine⟨fun _=> ?_,fun e=>by omega⟩
   rw[←hob,h2];exact R.lam i
 have hblk: ∃cur e fz,w.heap[G.β lev i]? =some (.cells cur e fz)∧ec cur fz∧G.O (G.β lev i)=0∧(∀cs,ob= .cells cs→cs.length≤cur.size)∧(∀k cs,ob= .arr k cs→k=G.sz lev i∧cs.length≤cur.size):=by
  rcases hlvl with e|e
  ·have:=hobr.1 e
   cases ob with
   |dead=>simp[obW]at hw
   |map ks vs=>simp[obW]at hw
   |cells cs=>
    simp only[ObR]at this
    obtain⟨cur,e,fz,h1,h2,h3,h4,_⟩:=this
    exact⟨cur,e,fz,h1,h2,h3,fun _ hc=>by injection hc with hc;subst hc;exact h4,fun _ _ hc=>by cases hc⟩
   |arr kk cs=>
    simp only[ObR]at this
    obtain⟨hk,cur,e,fz,h1,h2,h3,h4,_⟩:=this
    exact⟨cur,e,fz,h1,h2,h3,fun _ hc=>(by cases hc),fun _ _ hc=>(by injection hc with hc hc';subst hc;subst hc';exact⟨hk,h4⟩)⟩
  ·have:=hobr.2 e
   cases ob with
   |dead=>simp[obW]at hw
   |map ks vs=>simp[obW]at hw
   |cells cs=>
    simp only[ObR]at this
    obtain⟨cur,e,fz,h1,h2,h3,h4,_⟩:=this
    exact⟨cur,e,fz,h1,h2,h3,fun _ hc=>by injection hc with hc;subst hc;exact h4,fun _ _ hc=>by cases hc⟩
   |arr kk cs=>
    simp only[ObR]at this
    obtain⟨hk,cur,e,fz,h1,h2,h3,h4,_⟩:=this
    exact⟨cur,e,fz,h1,h2,h3,fun _ hc=>(by cases hc),fun _ _ hc=>(by injection hc with hc hc';subst hc;subst hc';exact⟨hk,h4⟩)⟩
 obtain⟨cur,e,fz,hb,hu,hO,hc1,hc2⟩:=hblk
 have hsz:cv.cells.size=n∧off+n≤cur.size∧(∀u∈cv.cells.toList,u.oneCell'=true):=by
  cases ob with
  |dead=>simp[obW]at hw
  |map ks vs=>simp[obW]at hw
  |cells cs=>
   simp only[obW]at hw
   obtain⟨vs,h1,hw⟩:=ac.1 hw
   split at hw<;>simp only[Option.some.injEq,reduceCtorEq]at hw
   rename_i hc
   simp only[Bool.and_eq_true]at hc
   have hcn:=Nat.eq_of_beq_eq_true hc.1
   have hle:=Nat.le_of_ble_eq_true hc.2
   have:=hc1 cs rfl
   rcases hlvl with e|e
   ·obtain⟨h2,h3,h4,h5⟩:=iI (kI h1) (hv.1 e)
    exact⟨by omega,by omega,h4⟩
   ·obtain⟨h2,h3,h4,h5⟩:=iI (kI h1) (hv.2 e)
    exact⟨by omega,by omega,h4⟩
  |arr kk cs=>
   simp only[obW]at hw
   obtain⟨c,h1,hw⟩:=ac.1 hw
   split at hw<;>simp only[Option.some.injEq,reduceCtorEq]at hw
   rename_i hc
   simp only[Bool.and_eq_true]at hc
   obtain⟨hcn,hso⟩:=sn hc.1
   have hle:=Nat.le_of_ble_eq_true hc.2
   have:=(hc2 kk cs rfl).2
   rcases hlvl with e|e
   ·obtain⟨h2,h3⟩:=iz hso (ew h1 (hv.1 e))
    have:=VRL_len h2
    exact⟨by simp at this;omega,by omega,h3⟩
   ·obtain⟨h2,h3⟩:=iz hso (ew h1 (hv.2 e))
    have:=VRL_len h2
    exact⟨by simp at this;omega,by omega,h3⟩
 obtain⟨hcn,hfit,hone⟩:=hsz
 have hrun:(storeCells ⟨G.β lev i,off,none⟩ cv.cells.toList).run P w= .ok () (w.setRow (G.β lev i) (bL cur off cv.cells.toList)):=by
  have:=lK (P:=P) (G.β lev i) off e fz cv.cells.toList 0 cur w hb hu (by simpa[hcn]using hfit) hone
  simpa only[Nat.add_zero]using this
 have hvl:cv.cells.toList.length=n:=by simpa using hcn
 refine⟨_,hcn,hrun,?_⟩
 have hownβ: ∀b,aH v cv b→b≠G.β lev i:=fun b hb e=>(hown b hb).2.1 lev i hl e.symm
 have hcell: ∀cs' k b,o'= .cells cs'→cF cs' (bL cur off cv.cells.toList) k b→
   (ay G w s.fr tm (μ++[s.lam]) (.ob lev i k) b∧(k<off∨off+n≤k))∨(k=off∧aH v cv b):=by
  rintro cs' k b rfl ⟨x,hx,hox⟩
  cases ob with
  |dead=>simp[obW]at hw
  |map ks vs=>simp[obW]at hw
  |arr kk cs=>
   simp only[obW]at hw
   obtain⟨c,h1,hw⟩:=ac.1 hw
   split at hw<;>simp at hw
  |cells cs=>
   simp only[obW]at hw
   obtain⟨vs,h1,hw⟩:=ac.1 hw
   split at hw<;>simp only[Option.some.injEq,reduceCtorEq,Ob.cells.injEq]at hw
   rename_i hc
   simp only[Bool.and_eq_true]at hc
   have hvn:=Nat.eq_of_beq_eq_true hc.1
   have hle:=Nat.le_of_ble_eq_true hc.2
   subst hw
   have hlr: ∃(G2:Gh) (L2 nl2:Nat),LVR G2 w L2 nl2 v cv:=by
    rcases hlvl with e|e
    ·exact⟨_,_,_,hv.1 e⟩
    ·exact⟨_,_,_,hv.2 e⟩
   obtain⟨G2,L2,nl2,hlr⟩:=hlr
   obtain⟨h2,h3,h4,h5⟩:=iI (kI h1) hlr
   by_cases hk:k<off∨off+n≤k
   ·left
    rw[eE (by rw[hvl];exact hk)]at hox
    have hx':cs[k]? =some x:=by
     rcases hk with hk|hk
     ·rw[fv vs off cs k hk]at hx;exact hx
     ·rw[gV vs off cs k (by omega)]at hx;exact hx
    refine⟨?_,hk⟩
    simp only[ay,hob,hx']
    exact⟨cur,e,fz,hb,hox⟩
   ·right
    obtain⟨j,rfl⟩: ∃j,k=off+j:=⟨k-off,by omega⟩
    rw[gT (by omega) (by omega)]at hox
    rw[jD vs off cs j (by omega) (by omega)]at hx
    have : cF vs cv.cells j b := ⟨x, hx, by
     rw[List.getD_eq_getElem?_getD,Array.getElem?_toList]at hox
     rw[Array.getD_eq_getD_getElem?];exact hox⟩
    obtain⟨hj,ho⟩:=h5 j b this
    exact⟨by omega,ho⟩
 have hnew: ∀G' w',Le G w G' w'→G'=G→w'=w.setRow (G.β lev i) (bL cur off cv.cells.toList)→ ∀(G2:Gh) (L2 nl2:Nat),(∀l i,G2.β l i=G.β l i)→G2.O=G.O→Le G2 w G2 w'→ObR G2 w L2 nl2 (G.β lev i) (G.sz lev i) ob→
   LVR G2 w L2 nl2 v cv→ObR G2 w' L2 nl2 (G.β lev i) (G.sz lev i) o':=by
  intro G' w' _ hG' hw' G2 L2 nl2 hβ2 hO2 hle2 hr hvr
  subst hw'
  have hnh:=setRow_heap w (G.β lev i) cur (bL cur off cv.cells.toList) e fz hb
  have hkeep: ∀b,b≠G.β lev i→(w.setRow (G.β lev i) (bL cur off cv.cells.toList)).heap[b]? =w.heap[b]? :=fun b h=>setRow_other w _ b _ h
  have hun:ec (bL cur off cv.cells.toList) fz:=fun j hj=>hu j (by simpa[cM]using hj)
  cases ob with
  |dead=>simp[obW]at hw
  |map ks vs=>simp[obW]at hw
  |cells cs=>
   simp only[obW]at hw
   obtain⟨vs,h1,hw⟩:=ac.1 hw
   split at hw<;>simp only[Option.some.injEq,reduceCtorEq]at hw
   rename_i hc
   simp only[Bool.and_eq_true]at hc
   have hvn:=Nat.eq_of_beq_eq_true hc.1
   have hle:=Nat.le_of_ble_eq_true hc.2
   subst hw
   obtain⟨h2,h3,h4,h5⟩:=iI (kI h1) hvr
   simp only[ObR]at hr ⊢
   obtain⟨cur2,e2,fz2,hb2,_,_,hcs,hr⟩:=hr
   rw[hb]at hb2
   obtain⟨rfl,rfl,rfl⟩:=(Obj.cells.injEq ..).mp (Option.some.inj hb2)
   refine⟨_,e,fz,hnh,hun,by rw[hO2];exact hO,by rw[lf,cM];exact hcs,fun k x hx=> ?_⟩
   by_cases hk:k<off∨off+n≤k
   ·rw[eE (by rw[hvl];exact hk)]
    have hx':cs[k]? =some x:=by
     rcases hk with hk|hk
     ·rw[fv vs off cs k hk]at hx;exact hx
     ·rw[gV vs off cs k (by omega)]at hx;exact hx
    refine cZ hle2 (Nat.le_refl _) (fun _ _=>⟨rfl,rfl⟩) x _ (fun b hox=>⟨hkeep b fun eb=> ?_,rfl⟩) (hr k x hx')
    subst eb
    refine R.apart (.ob lev i k) _ lev i ?_ hl rfl
    simp only[ay,hob,hx']
    exact⟨cur,e,fz,hb,hox⟩
   ·obtain⟨j,rfl⟩: ∃j,k=off+j:=⟨k-off,by omega⟩
    rw[gT (by omega) (by omega)]
    rw[jD vs off cs j (by omega) (by omega)]at hx
    have hgd:cv.cells.toList.getD j undef=cv.cells.getD j undef:=by
     rw[List.getD_eq_getElem?_getD,Array.getElem?_toList,Array.getD_eq_getD_getElem?]
    rw[hgd]
    refine cZ hle2 (Nat.le_refl _) (fun _ _=>⟨rfl,rfl⟩) x _ (fun b hox=>⟨hkeep b (hownβ b (h5 j b ⟨x,hx,hox⟩).2),rfl⟩) (h3 j x hx)
  |arr kk cs=>
   simp only[obW]at hw
   obtain⟨c,h1,hw⟩:=ac.1 hw
   split at hw<;>simp only[Option.some.injEq,reduceCtorEq]at hw
   rename_i hc
   simp only[Bool.and_eq_true]at hc
   obtain⟨hvn,hso⟩:=sn hc.1
   have hle:=Nat.le_of_ble_eq_true hc.2
   subst hw
   obtain⟨h2,h3⟩:=iz hso (ew h1 hvr)
   simp only[ObR]at hr ⊢
   obtain⟨hkk,cur2,e2,fz2,hb2,_,_,hcs,hr⟩:=hr
   rw[hb]at hb2
   obtain⟨rfl,rfl,rfl⟩:=(Obj.cells.injEq ..).mp (Option.some.inj hb2)
   refine⟨hkk,_,e,fz,hnh,hun,by rw[hO2];exact hO,by rw[lf,cM];exact hcs,fun k x hx=> ?_⟩
   by_cases hk:k<off∨off+n≤k
   ·rw[eE (by rw[hvl];exact hk)]
    have hx':cs[k]? =some x:=by
     rcases hk with hk|hk
     ·rw[fv c.cells off cs k hk]at hx;exact hx
     ·rw[gV c.cells off cs k (by omega)]at hx;exact hx
    exact bi hle2 x _ (hr k x hx')
   ·obtain⟨j,rfl⟩: ∃j,k=off+j:=⟨k-off,by omega⟩
    rw[gT (by omega) (by omega)]
    rw[jD c.cells off cs j (by omega) (by omega)]at hx
    obtain⟨u,hu1,hu2⟩:=(dp h2).2 j x hx
    rw[List.getD_eq_getElem?_getD,hu1]
    exact bi hle2 x _ hu2
 obtain⟨R1,hle,hT,hO1,hO2,hlv⟩:=R.setOb (s1:=s1) (μ1:=μ1) (o':=o') (cur':=bL cur off cv.cells.toList) hl hb (cM _ _ _) hfr hp hlen hμlen hH
  (fun G' w' hle hG hw' => ⟨fun e => by
    have hle':Le G w G w':=by rw[hG]at hle;exact hle
    rw[hG];exact hnew G' w' hle hG hw' G L s.lam.length (fun _ _=>rfl) rfl hle' (hobr.1 e) (hv.1 e),
   fun e=>by
    have hle':Le G w G w':=by rw[hG]at hle;exact hle
    rw[hG];exact hnew G' w' hle hG hw' (G.below lev) lev 0 (fun _ _=>rfl) rfl (hle'.below lev) (hobr.2 e) (hv.2 e)⟩)
  (fun cs' k b he hco => by
   rcases hcell cs' k b he hco with⟨h1,_⟩|⟨h1,h2⟩
   ·exact .inl h1
   ·refine .inr ⟨(hown b h2).1,(hown b h2).2.1,fun k' hk'=> ?_⟩
    rcases hcell cs' k' b he hk' with⟨h3,_⟩|⟨h3,_⟩
    ·exact absurd h3 ((hown b h2).1 _)
    ·omega)
 refine⟨R1,E.le.trans hle,E.os,E.tape,E.output,by simpa using E.size,fun b hb hn=> ?_,fun b hb=> ?_,E.lev⟩
 ·obtain⟨h1,h2⟩:=E.keep b hb hn
  refine⟨?_,h2⟩
  rw[←h1]
  refine setRow_other w _ b _ fun eb=> ?_
  subst eb
  rcases E.grow _ (.inr ⟨lev,i,hl,rfl⟩)with h|h
  ·exact hn h
  ·omega
 ·rcases hT b hb with h1|⟨cs',k,he,hco⟩
  ·exact E.grow b h1
  ·rcases hcell cs' k b he hco with⟨h1,_⟩|⟨_,h1⟩
   ·exact E.grow b (.inl ⟨_,h1⟩)
   ·exact(hown b h1).2.2
theorem Rel.writeOb {G0:Gh}{w0:World}{tm:Array Value}{T0:Nat→Prop}{s1:S}{μ1:Mu}{lev i off:Nat}{ob o':Ob}{v:LV}{cv:Value}{t:TypeId}(R:Rel G L s μ tm w)
  (E:Ext L T0 G0 w0 G w (aB G w s μ tm)) (hob:aE (μ++[s.lam]) lev i=ob) (hw:dY P t ob off v=some o')
  (hv:(lev=L→LVR G w L s.lam.length v cv)∧(lev<L→LVR (G.below lev) w lev 0 v cv))
  (hown: ∀b,aH v cv b→(∀l,¬ay G w s.fr tm (μ++[s.lam]) l b)∧(∀lev i,aK (aE (μ++[s.lam]) lev i)→G.β lev i≠b)∧(T0 b∨w0.heap.size≤b))
  (hfr:s1.fr=s.fr) (hp:s1.pushed=s.pushed) (hlen:s1.lam.length=s.lam.length) (hμlen:μ1.length=μ.length) (hH:μ1++[s1.lam]=bj (μ++[s.lam]) lev i o'):
  ∃w',(storeVar t ⟨G.β lev i,off,none⟩ cv).run P w= .ok () w'∧Rel G L s1 μ1 tm w'∧Ext L T0 G0 w0 G w' (aB G w' s1 μ1 tm):=by
 obtain⟨n,hn,hw'⟩:=PQ hw
 obtain⟨w',h1,h2,h3,h4⟩:=R.writeW (P:=P) (s1:=s1) (μ1:=μ1) E hob hw' hv hown hfr hp hlen hμlen hH
 refine⟨w',?_,h3,h4⟩
 simp only[storeVar,Sem.run_bind,db hn,Result.andThen_ok,h1,ne_eq,not_true_eq_false,if_false,h2]
theorem TF {t:TypeId}{x y:Operand}(ho:o.op= .store t x y)(R:Rel G L s μ a.tmps w)(hd: ∀d,o.dst=some d→d<a.tmps.size)(hk:KOK L G w s μ a o.dst k r K)
  (hop:it P h t (evA h s.fr x) (evA h s.fr y) (ab h.take s) μ k=some r):o.wp P a w K Q:=by
 obtain⟨R1,E1,hO⟩:=cH R h.take
 have hl:=aQ h.take s
 obtain⟨hv,hown⟩:=aX R h y
 have hown': ∀b,aH (evA h s.fr y) (a.eval y) b→(∀l,¬ay G w (ab h.take s).fr a.tmps (μ++[(ab h.take s).lam]) l b)∧(∀lev i,aK (aE (μ++[(ab h.take s).lam]) lev i)→G.β lev i≠b)∧(aB G w s μ a.tmps b∨w.heap.size≤b):=by
  intro b hb
  obtain⟨tt,ht,hot⟩:=hown b hb
  refine⟨fun l hl'=> ?_,fun lev i hlv=> ?_,.inl (.inl ⟨.fr tt,hot⟩)⟩
  ·obtain⟨a1,a2⟩:=hO l b hl'
   exact a1 tt ht (R.own l (.fr tt) b a2 hot)
  ·rw[hl.1]at hlv
   exact R.apart (.fr tt) b lev i hot hlv
 unfold it at hop
 split at hop
 ·rename_i i off he
  have hx:=(aX R h x).1
  rw[he]at hx
  simp only[LVR]at hx
  split at hop<;>try(simp at hop;done)
  rw[lY]at hop
  obtain⟨o',h1,h2⟩:=ac.1 hop
  obtain⟨w',hrun,R2,E2⟩:=R1.writeOb (P:=P) (s1:={ab h.take s with lam:=(ab h.take s).lam.set i o'}) (μ1:=μ) (lev:=L) (i:=i) (off:=off) (cv:=a.eval y) E1 (by rw[←R.lev];exact br) h1
   ⟨fun _=>by rw[hl.1];exact hv,fun e=>by omega⟩ hown' rfl rfl (by simp) rfl (by rw[←R.lev];exact o2.symm)
  obtain⟨R3,E3⟩:=cg (dst:=o.dst) (v:= .cv .undef) (cv:=undef) R2 E2 (by simp[LVR,VR]) (fun b hb=>by simp[aH]at hb) hd
  refine ni ?_ (hk _ _ _ _ w' G h2 R3 E3)
  simp only[execOp,ho,hx.2]
  refine Mx ?_
  simp only[Instr.storeAt,Instr.sureAddr,Sem.run_bind,Sem.run_pure,Result.andThen_ok,hrun]
 ·split at hop<;>try(simp at hop;done)
  obtain⟨q,hc,hop⟩:=ac.1 hop
  have hx:=co R (oT hc)
  simp only[VR]at hx
  obtain⟨hok,hop⟩:=aF.1 hop
  obtain⟨o',h1,h2⟩:=ac.1 hop
  have hq:q.1<μ.length:=by
   by_cases hq:q.1<μ.length
   ·exact hq
   ·simp only[aU]at h1
    rw[List.getElem?_eq_none (by omega)]at h1
    simp[dY]at h1
  obtain⟨w',hrun,R2,E2⟩:=R1.writeOb (P:=P) (s1:=ab h.take s) (μ1:=bj μ q.1 q.2.1 o') (lev:=q.1) (i:=q.2.1) (off:=q.2.2) (cv:=a.eval y) E1 (ba hq) h1
   ⟨fun e=>by rw[R.lev]at hq;omega,fun _=>M4 hok hv⟩ hown' rfl rfl rfl iW.1 (mC hq).symm
  obtain⟨R3,E3⟩:=cg (dst:=o.dst) (v:= .cv .undef) (cv:=undef) R2 E2 (by simp[LVR,VR]) (fun b hb=>by simp[aH]at hb) hd
  refine ni ?_ (hk _ _ _ _ w' G h2 R3 E3)
  simp only[execOp,ho,hx.2]
  refine Mx ?_
  simp only[Instr.storeAt,Instr.sureAddr,Sem.run_bind,Sem.run_pure,Result.andThen_ok,hrun]
 ·simp at hop
end
end Go.Abs
