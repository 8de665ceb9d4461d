/-
  The statement ExprLevelsCardSaid, proved; part 2 of 11 of its proof.
-/
import Derived.Test.YtmemoghbijcebaaGreatDoorV0
set_option linter.all false
namespace Go.Abs
open Go
def Gh.setL (G:Gh)(L m b k:Nat)(pushed:Bool):Gh where
 O:=λx=>if x=b then 0 else G.O x
 β:=λl i=>if l=L/\i=m then b else G.β l i
 n:=λl=>if l=L/\pushed=true then m+1 else G.n l
 sz:=λl i=>if l=L/\i=m then k else G.sz l i
section
variable {G:Gh}{w:World}{L:Nat}{P:Program}
def mh {l:Lam}{o:Ob}{i:Nat}(h:i<l.length):bQ (l++[o]) i=bQ l i:=by simp[bQ,fN h]
def oV {l:Lam}{o:Ob}:bQ (l++[o]) l.length=o:=by simp[bQ]
def zi {l:Lam}{o:Ob}{i:Nat}(h:l.length<i):bQ (l++[o]) i= .dead:=by simp only[bQ];grind
def eZ (cs:List LV)(cur:Array Value)(k b:Nat):Prop:= ∃x,cs[k]? =some x/\bZ x (cur.getD k undef) b
def Rel.newLocal {s:S}{μ:Mu}{tm:Array Value}(R:Rel G L s μ tm w){cur:Array Value}{e:TypeId}{ob:Ob}{k:Nat}{fz:Nat×Nat}(hfz:g9 cur fz)
 (hob : (∃ cs, ob = .cells cs /\ cs.length <= cur.size /\ ∀ j x, cs[j]? = some x -> LVR G w L s.lam.length x (cur.getD j undef)) \/
  (∃cs,ob= .arr k cs/\cs.length<=cur.size/\ ∀j x,cs[j]? =some x->VR G w x (cur.getD j undef)))
 (hown: ∀cs j b,ob= .cells cs->eZ cs cur j b->(∀l,¬bF G w s.fr tm (μ++[s.lam]) l b)/\(∀lev i,b6 (bP (μ++[s.lam]) lev i)->G.β lev i≠b)/\ ∀j',eZ cs cur j' b->j'=j):
 let G1:=G.setL L s.lam.length w.heap.size k s.pushed;let w1:=w.alloc (.cells cur e fz);let s1:S:={s with lam:=s.lam++[ob]}
 Rel G1 L s1 μ tm w1/\Le G w G1 w1/\
 (∀b,jz G1 w1 s1.fr tm (μ++[s1.lam]) b->jz G w s.fr tm (μ++[s.lam]) b\/b=w.heap.size\/ ∃cs j,ob= .cells cs/\eZ cs cur j b)/\
 LVR G1 w1 L s1.lam.length (.loc s.lam.length 0) (.pointer (some ⟨w.heap.size,0,none⟩)):=by
 intro G1 w1 s1;have hβ: ∀lev i,lev<L\/(lev=L/\i<s.lam.length)->G1.β lev i=G.β lev i/\G1.sz lev i=G.sz lev i:=by intro lev i h;have: ¬(lev=L/\i=s.lam.length):=bu;simp only[G1,Gh.setL,this,dG,m5]
 have hβn:G1.β L s.lam.length=w.heap.size/\G1.sz L s.lam.length=k:=by simp[G1,Gh.setL]
 have hO: ∀b,b≠w.heap.size->G1.O b=G.O b:=λb h=>by simp[G1,Gh.setL,h]
 have hOn:G1.O w.heap.size=0:=by simp[G1,Gh.setL]
 have hn: ∀lev,lev≠L->G1.n lev=G.n lev:=λlev h=>by simp[G1,Gh.setL,h]
 have hnL:G1.n L=if s.pushed then s.lam.length+1 else 0:=by have:=R.nL;cases hp:s.pushed<;>simp[G1,Gh.setL,hp,this]at this |-
 have hle:Le G w G1 w1:=by
  refine⟨λb es clk h hb=> ?_,λlev i h=> ?_,λb off v h hc=> ?_,λb cur' e' fz' h=> ?_⟩
  ·have hlt:b<w.heap.size:=mO hb;rw[hO b bu,iN w _ hlt];exact⟨h,hb⟩
  ·by_cases hl:lev=L
   ·subst hl;have:=R.nL;cases hp:s.pushed<;>simp only[hp,cX,dG,eD]at this
    ·omega
    ·have hb:=hβ lev i (.inr ⟨rfl,bu⟩);refine⟨?_,hb⟩;rw[hnL,hp,bK rfl];omega
   ·by_cases hlt:lev<L
    ·exact⟨by rw[hn lev hl];exact h,hβ lev i (.inl hlt)⟩
    ·have:=R.ngt lev bu;omega
  ·have hb:b<w.heap.size:=Fl hc;rw[hO b bu,pE hb];exact⟨h,hc⟩
  ·exact⟨cur',_,by rw[iN w _ (mO h)];exact h,rfl⟩
 have hT: ∀b,jz G w s.fr tm (μ++[s.lam]) b->w1.heap[b]? =w.heap[b]? /\G1.O b=G.O b:=λb hb=>by have:=R.touch_lt hb;exact⟨iN w _ this,hO b bu⟩
 have hlen:s1.lam.length=s.lam.length+1:=by simp[s1]
 have hnew:w1.heap[w.heap.size]? =some (.cells cur e fz):=kN w _;have hlive: ∀lev i,b6 (bP (μ++[s1.lam]) lev i)->(b6 (bP (μ++[s.lam]) lev i)/\bP (μ++[s1.lam]) lev i=bP (μ++[s.lam]) lev i/\G1.β lev i=G.β lev i/\(lev<L\/(lev=L/\i<s.lam.length)))\/(lev=L/\i=s.lam.length/\bP (μ++[s1.lam]) lev i=ob):=by
  intro lev i h;rcases e8 (s:=s1) R.lev h with⟨h1,h2⟩|⟨rfl,h1,h2⟩
  ·have e:bP (μ++[s.lam]) lev i=b7 μ lev i:=cS (by rw[R.lev];exact h1);rw[h2]at h |-;exact .inl ⟨by rw[e];exact h,e.symm,(hβ lev i (.inl h1)).1,.inl h1⟩
  ·rw[hlen]at h1;by_cases hi:i<s.lam.length
   ·have e:bP (μ++[s.lam]) lev i=bQ s.lam i:=by rw[<-R.lev];exact cV
    have e2:bQ s1.lam i=bQ s.lam i:=mh hi;rw[h2,e2]at h |-;exact .inl ⟨by rw[e];exact h,e.symm,(hβ lev i (.inr ⟨rfl,hi⟩)).1,.inr ⟨rfl,hi⟩⟩
   ·have:i=s.lam.length:=bu;subst this;rw[h2];exact .inr ⟨rfl,rfl,oV⟩
 have hownAt: ∀l b,bF G1 w1 s1.fr tm (μ++[s1.lam]) l b->bF G w s.fr tm (μ++[s.lam]) l b\/ ∃cs j,ob= .cells cs/\eZ cs cur j b/\l= .ob L s.lam.length j:=by
  intro l b h;cases l with
  |fr t=>exact .inl h|ob lev i j=>
   simp only[bF]at h |-;split at h<;>try(exact h.elim)
   rename_i cs hcs;split at h<;>try(exact h.elim)
   rename_i x hx;obtain⟨cur',e',fz',hb,ho⟩:=h;have hl:b6 (bP (μ++[s1.lam]) lev i):=by rw[hcs];trivial
   rcases hlive lev i hl with⟨h1,h2,h3,h4⟩|⟨rfl,rfl,h2⟩
   ·left;rw[<-h2,hcs];simp only[hx];rw[h3]at hb;have:G.β lev i<w.heap.size:=R.touch_lt (.inr ⟨lev,i,h1,rfl⟩);rw[iN w _ this]at hb;exact⟨cur',e',fz',hb,ho⟩
   ·right;rw[h2]at hcs;rw[hβn.1,hnew]at hb;obtain⟨rfl,_⟩:=(j4 ..).mp (gY hb);exact⟨cs,j,hcs,⟨x,hx,ho⟩,rfl⟩
 refine⟨⟨R.lev,λt=> ?_,λi=> ?_,λlev i hl=> ?_,λlev i lev' i' h h' e'=> ?_,λl l' b h h'=> ?_,λl b lev i h h' e'=> ?_,λlev hl=> ?_,?_,λlev hl=> ?_⟩,hle,λb hb=> ?_,?_⟩
 ·rw[hlen];exact fw hle (vL _) (λi hi=>hβ L i (.inr ⟨rfl,hi⟩)) _ _ (λb hb=>hT b (.inl ⟨.fr t,hb⟩)) (R.fr t)
 ·rw[hlen];by_cases hi:i<s.lam.length
  ·have e1:bP (μ++[s.lam]) L i=bQ s.lam i:=by rw[<-R.lev];exact cV
   have e2:bQ s1.lam i=bQ s.lam i:=mh hi;rw[e2,(hβ L i (.inr ⟨rfl,hi⟩)).1,(hβ L i (.inr ⟨rfl,hi⟩)).2];refine ey hle (vL _) (λi hi=>hβ L i (.inr ⟨rfl,hi⟩)) (λhl=>hT _ (.inr ⟨L,i,by rw[e1];exact hl,rfl⟩)) (λcs j x cur e fz ho hx hb b' hb'=>hT b' (.inl ⟨.ob L i j,?_⟩)) (R.lam i);simp only[bF,e1,ho,hx];exact⟨cur,e,fz,hb,hb'⟩
  ·by_cases hi':i=s.lam.length
   ·subst hi';have e2:bQ s1.lam s.lam.length=ob:=oV;rw[e2,hβn.1,hβn.2];rcases hob with⟨cs,rfl,hc,hr⟩|⟨cs,rfl,hc,hr⟩
    ·simp only[ObR];refine⟨cur,e,fz,hnew,hfz,hOn,hc,λj x hx=> ?_⟩;refine fw hle (vL _) (λi hi=>hβ L i (.inr ⟨rfl,hi⟩)) _ _ (λb hb=> ?_) (hr j x hx);have hlt:b<w.heap.size:=oz (hr j x hx) hb;exact⟨iN w _ hlt,hO b bu⟩
    ·simp only[ObR];exact⟨trivial,cur,e,fz,hnew,hfz,hOn,hc,λj x hx=>cZ hle x _ (hr j x hx)⟩
   ·have e2:bQ s1.lam i= .dead:=zi bu;rw[e2];trivial
 ·have e1:bP (μ++[s.lam]) lev i=b7 μ lev i:=cS (by rw[R.lev];exact hl);rw[(hβ lev i (.inl hl)).1,(hβ lev i (.inl hl)).2];refine ey (hle.below lev) (cw _) (λi hi=>by omega) (λh=>hT _ (.inr ⟨lev,i,by rw[e1];exact h,rfl⟩)) (λcs j x cur e fz ho hx hb b' hb'=>hT b' (.inl ⟨.ob lev i j,?_⟩)) (R.mu lev i hl);simp only[bF,e1,ho,hx];exact⟨cur,e,fz,hb,hb'⟩
 ·rcases hlive lev i h with⟨h1,h2,h3,_⟩|⟨rfl,rfl,h2⟩<;>rcases hlive lev' i' h' with⟨h1',h2',h3',_⟩|⟨rfl,rfl,h2'⟩
  ·rw[h3,h3']at e';exact R.inj lev i lev' i' h1 h1' e'
  ·rw[h3,hβn.1]at e';have:=R.touch_lt (.inr ⟨lev,i,h1,rfl⟩);omega
  ·rw[h3',hβn.1]at e';have:=R.touch_lt (.inr ⟨lev',i',h1',rfl⟩);omega
  ·exact⟨rfl,rfl⟩
 ·rcases hownAt l b h with h1|⟨cs,j,h1,h2,rfl⟩<;>rcases hownAt l' b h' with h1'|⟨cs',j',h1',h2',rfl⟩
  ·exact R.own l l' b h1 h1'
  ·exact absurd h1 ((hown cs' j' b h1' h2').1 l)
  ·exact absurd h1' ((hown cs j b h1 h2).1 l')
  ·rw[h1]at h1';injection h1' with h1';subst h1';rw[(hown cs j b h1 h2).2.2 j' h2']
 ·rcases hlive lev i h' with⟨h2,h3,h4,_⟩|⟨rfl,rfl,h3⟩
  ·rw[h4]at e';rcases hownAt l b h with h1|⟨cs,j,h1,h1',rfl⟩
   ·exact R.apart l b lev i h1 h2 e'
   ·exact(hown cs j b h1 h1').2.1 lev i h2 e'
  ·rw[hβn.1]at e';rcases hownAt l b h with h1|⟨cs,j,h1,h1',rfl⟩
   ·have:=R.touch_lt (.inl ⟨l,h1⟩);omega
   ·rcases hob with⟨cs',e3,hc,hr⟩|⟨cs',e3,hc,hr⟩
    ·rw[h1]at e3;injection e3 with e3;subst e3;obtain⟨x,hx,ho⟩:=h1';have:=oz (hr j x hx) ho;omega
    ·rw[h1]at e3;cases e3
 ·rw[hn lev bu];exact R.nlt lev hl
 ·rw[hnL,hlen]
 ·rw[hn lev bu];exact R.ngt lev hl
 ·rcases hb with⟨l,hb⟩|⟨lev,i,hl,rfl⟩
  ·rcases hownAt l b hb with h1|⟨cs,j,h1,h2,rfl⟩
   ·exact .inl (.inl ⟨l,h1⟩)
   ·exact .inr (.inr ⟨cs,j,h1,h2⟩)
  ·rcases hlive lev i hl with⟨h1,h2,h3,_⟩|⟨rfl,rfl,h2⟩
   ·exact .inl (.inr ⟨lev,i,h1,h3.symm⟩)
   ·exact .inr (.inl hβn.1)
 ·simp only[LVR];exact⟨by rw[hlen];omega,by rw[hβn.1]⟩
def Rel.newMap {s:S}{μ:Mu}{tm:Array Value}(R:Rel G L s μ tm w):
 let G1:=G.setL L s.lam.length w.heap.size 0 s.pushed;let w1:=w.alloc (.map #[] 0);let s1:S:={s with lam:=s.lam++[.map [] []]}
 Rel G1 L s1 μ tm w1/\Le G w G1 w1/\
 (∀b,jz G1 w1 s1.fr tm (μ++[s1.lam]) b->jz G w s.fr tm (μ++[s.lam]) b\/b=w.heap.size)/\
 LVR G1 w1 L s1.lam.length (.mloc s.lam.length) (.map (some w.heap.size)):=by
 intro G1 w1 s1;have hβ: ∀lev i,lev<L\/(lev=L/\i<s.lam.length)->G1.β lev i=G.β lev i/\G1.sz lev i=G.sz lev i:=by intro lev i h;have: ¬(lev=L/\i=s.lam.length):=bu;simp only[G1,Gh.setL,this,dG,m5]
 have hβn:G1.β L s.lam.length=w.heap.size/\G1.sz L s.lam.length=0:=by simp[G1,Gh.setL]
 have hO: ∀b,b≠w.heap.size->G1.O b=G.O b:=λb h=>by simp[G1,Gh.setL,h]
 have hOn:G1.O w.heap.size=0:=by simp[G1,Gh.setL]
 have hn: ∀lev,lev≠L->G1.n lev=G.n lev:=λlev h=>by simp[G1,Gh.setL,h]
 have hnL:G1.n L=if s.pushed then s.lam.length+1 else 0:=by have:=R.nL;cases hp:s.pushed<;>simp[G1,Gh.setL,hp,this]at this |-
 have hle:Le G w G1 w1:=by
  refine⟨λb es clk h hb=> ?_,λlev i h=> ?_,λb off v h hc=> ?_,λb cur' e' fz' h=> ?_⟩
  ·have hlt:b<w.heap.size:=mO hb;rw[hO b bu,iN w _ hlt];exact⟨h,hb⟩
  ·by_cases hl:lev=L
   ·subst hl;have:=R.nL;cases hp:s.pushed<;>simp only[hp,cX,dG,eD]at this
    ·omega
    ·have hb:=hβ lev i (.inr ⟨rfl,bu⟩);refine⟨?_,hb⟩;rw[hnL,hp,bK rfl];omega
   ·by_cases hlt:lev<L
    ·exact⟨by rw[hn lev hl];exact h,hβ lev i (.inl hlt)⟩
    ·have:=R.ngt lev bu;omega
  ·have hb:b<w.heap.size:=Fl hc;rw[hO b bu,pE hb];exact⟨h,hc⟩
  ·exact⟨cur',_,by rw[iN w _ (mO h)];exact h,rfl⟩
 have hT: ∀b,jz G w s.fr tm (μ++[s.lam]) b->w1.heap[b]? =w.heap[b]? /\G1.O b=G.O b:=λb hb=>by have:=R.touch_lt hb;exact⟨iN w _ this,hO b bu⟩
 have hlen:s1.lam.length=s.lam.length+1:=by simp[s1]
 have hnew:w1.heap[w.heap.size]? =some (.map #[] 0):=kN w _;have hlive: ∀lev i,b6 (bP (μ++[s1.lam]) lev i)->(b6 (bP (μ++[s.lam]) lev i)/\bP (μ++[s1.lam]) lev i=bP (μ++[s.lam]) lev i/\G1.β lev i=G.β lev i/\(lev<L\/(lev=L/\i<s.lam.length)))\/(lev=L/\i=s.lam.length/\bP (μ++[s1.lam]) lev i= .map [] []):=by
  intro lev i h;rcases e8 (s:=s1) R.lev h with⟨h1,h2⟩|⟨rfl,h1,h2⟩
  ·have e:bP (μ++[s.lam]) lev i=b7 μ lev i:=cS (by rw[R.lev];exact h1);rw[h2]at h |-;exact .inl ⟨by rw[e];exact h,e.symm,(hβ lev i (.inl h1)).1,.inl h1⟩
  ·rw[hlen]at h1;by_cases hi:i<s.lam.length
   ·have e:bP (μ++[s.lam]) lev i=bQ s.lam i:=by rw[<-R.lev];exact cV
    have e2:bQ s1.lam i=bQ s.lam i:=mh hi;rw[h2,e2]at h |-;exact .inl ⟨by rw[e];exact h,e.symm,(hβ lev i (.inr ⟨rfl,hi⟩)).1,.inr ⟨rfl,hi⟩⟩
   ·have:i=s.lam.length:=bu;subst this;rw[h2];exact .inr ⟨rfl,rfl,oV⟩
 have hownAt: ∀l b,bF G1 w1 s1.fr tm (μ++[s1.lam]) l b->bF G w s.fr tm (μ++[s.lam]) l b:=by
  intro l b h;cases l with
  |fr t=>exact h|ob lev i j=>
   simp only[bF]at h |-;split at h<;>try(exact h.elim)
   rename_i cs hcs;split at h<;>try(exact h.elim)
   rename_i x hx;obtain⟨cur',e',fz',hb,ho⟩:=h;have hl:b6 (bP (μ++[s1.lam]) lev i):=by rw[hcs];trivial
   rcases hlive lev i hl with⟨h1,h2,h3,h4⟩|⟨rfl,rfl,h2⟩
   ·rw[<-h2,hcs];simp only[hx];rw[h3]at hb;have:G.β lev i<w.heap.size:=R.touch_lt (.inr ⟨lev,i,h1,rfl⟩);rw[iN w _ this]at hb;exact⟨cur',e',fz',hb,ho⟩
   ·rw[h2]at hcs;cases hcs
 refine⟨⟨R.lev,λt=> ?_,λi=> ?_,λlev i hl=> ?_,λlev i lev' i' h h' e'=> ?_,λl l' b h h'=> ?_,λl b lev i h h' e'=> ?_,λlev hl=> ?_,?_,λlev hl=> ?_⟩,hle,λb hb=> ?_,?_⟩
 ·rw[hlen];exact fw hle (vL _) (λi hi=>hβ L i (.inr ⟨rfl,hi⟩)) _ _ (λb hb=>hT b (.inl ⟨.fr t,hb⟩)) (R.fr t)
 ·rw[hlen];by_cases hi:i<s.lam.length
  ·have e1:bP (μ++[s.lam]) L i=bQ s.lam i:=by rw[<-R.lev];exact cV
   have e2:bQ s1.lam i=bQ s.lam i:=mh hi;rw[e2,(hβ L i (.inr ⟨rfl,hi⟩)).1,(hβ L i (.inr ⟨rfl,hi⟩)).2];refine ey hle (vL _) (λi hi=>hβ L i (.inr ⟨rfl,hi⟩)) (λhl=>hT _ (.inr ⟨L,i,by rw[e1];exact hl,rfl⟩)) (λcs j x cur e fz ho hx hb b' hb'=>hT b' (.inl ⟨.ob L i j,?_⟩)) (R.lam i);simp only[bF,e1,ho,hx];exact⟨cur,e,fz,hb,hb'⟩
  ·by_cases hi':i=s.lam.length
   ·subst hi';have e2:bQ s1.lam s.lam.length= .map [] []:=oV;rw[e2,hβn.1,hβn.2];simp only[ObR];exact⟨#[],0,hnew,hOn,rfl,by simp[VRL]⟩
   ·have e2:bQ s1.lam i= .dead:=zi bu;rw[e2];trivial
 ·have e1:bP (μ++[s.lam]) lev i=b7 μ lev i:=cS (by rw[R.lev];exact hl);rw[(hβ lev i (.inl hl)).1,(hβ lev i (.inl hl)).2];refine ey (hle.below lev) (cw _) (λi hi=>by omega) (λh=>hT _ (.inr ⟨lev,i,by rw[e1];exact h,rfl⟩)) (λcs j x cur e fz ho hx hb b' hb'=>hT b' (.inl ⟨.ob lev i j,?_⟩)) (R.mu lev i hl);simp only[bF,e1,ho,hx];exact⟨cur,e,fz,hb,hb'⟩
 ·rcases hlive lev i h with⟨h1,h2,h3,_⟩|⟨rfl,rfl,h2⟩<;>rcases hlive lev' i' h' with⟨h1',h2',h3',_⟩|⟨rfl,rfl,h2'⟩
  ·rw[h3,h3']at e';exact R.inj lev i lev' i' h1 h1' e'
  ·rw[h3,hβn.1]at e';have:=R.touch_lt (.inr ⟨lev,i,h1,rfl⟩);omega
  ·rw[h3',hβn.1]at e';have:=R.touch_lt (.inr ⟨lev',i',h1',rfl⟩);omega
  ·exact⟨rfl,rfl⟩
 ·exact R.own l l' b (hownAt l b h) (hownAt l' b h')
 ·rcases hlive lev i h' with⟨h2,h3,h4,_⟩|⟨rfl,rfl,h3⟩
  ·rw[h4]at e';exact R.apart l b lev i (hownAt l b h) h2 e'
  ·rw[hβn.1]at e';have:=R.touch_lt (.inl ⟨l,hownAt l b h⟩);omega
 ·rw[hn lev bu];exact R.nlt lev hl
 ·rw[hnL,hlen]
 ·rw[hn lev bu];exact R.ngt lev hl
 ·rcases hb with⟨l,hb⟩|⟨lev,i,hl,rfl⟩
  ·exact .inl (.inl ⟨l,hownAt l b hb⟩)
  ·rcases hlive lev i hl with⟨h1,h2,h3,_⟩|⟨rfl,rfl,h2⟩
   ·exact .inl (.inr ⟨lev,i,h1,h3.symm⟩)
   ·exact .inr hβn.1
 ·simp only[LVR];exact⟨by rw[hlen];omega,by rw[hβn.1]⟩
end
section
variable {G:Gh}{w:World}{L:Nat}{P:Program}
def pV (g o:Nat)(t:TypeId)(fz:Nat×Nat): ∀(vs:List Value) (i:Nat) (cur:Array Value) (w:World),w.heap[g]? =some (.cells cur t fz)->g9 cur fz->
 o+i+vs.length<=cur.size->(∀v∈vs,v.oneCell'=true)->(storeCells ⟨g,o,none⟩ vs i).run P w= .ok () (w.setRow g (dO cur (o+i) vs))
 |[],i,cur,w,hg,_,_,_=>by simp only[storeCells,dO];rw[Bg w g cur t fz hg];rfl|v::rest,i,cur,w,hg,hu,hl,h1=>by
  have hi:o+i<cur.size:=by simp at hl;omega
  have hcell:w.cell? ⟨g,o+i,none⟩=some cur[o+i]:=by simp[World.cell?,hg,hi]
  have hfro:w.frozen? ⟨g,o+i,none⟩=false:=by have:=hu (o+i) hi;obtain⟨lo,hi'⟩:=fz;simp only[World.frozen?,hg];simp_all
  have hst:(store ((⟨g,o,none⟩:Addr).add i) v).run P w= .ok () (w.setRow g (cur.setIfInBounds (o+i) v)):=by rw[gE,run_store P w _ v _ (h1 v bG),hcell];simp[hfro,setCell_eq_setRow w g (o+i) cur t fz v hg]
  have ih:=pV g o t fz rest (i+1) (cur.setIfInBounds (o+i) v) (w.setRow g (cur.setIfInBounds (o+i) v)) (pZ w g cur _ t _ hg) (λj hj=>hu j (by simpa using hj)) (by simp at hl |-; omega) (λx hx=>h1 x (by simp[hx]));simp only[storeCells,dc,hst,df,ih,setRow_setRow,dO];rfl
def Sb {b:Nat}{cur cur':Array Value}{e:TypeId}{fz:Nat×Nat}(hb:w.heap[b]? =some (.cells cur e fz))(hO:G.O b=0)(hs:cur'.size=cur.size):Le G w G (w.setRow b cur'):=by
 refine⟨λb' es clk h hb'=> ?_,λ_ _ h=>⟨h,rfl,rfl⟩,λb' off v h hc=> ?_,λb' cur2 e2 fz2 h=> ?_⟩
 ·have hne:b'≠b:=λe=>by subst e;omega
  exact⟨h,by rw[oq w b b' cur' hne];exact hb'⟩
 ·have hne:b'≠b:=λe=>by subst e;omega
  refine⟨h,?_⟩;rw[<-hc];simp only[World.cell?];rw[oq w b b' cur' hne]
 ·by_cases hne:b'=b
  ·subst hne;rw[hb]at h;obtain⟨rfl,rfl,rfl⟩:=(j4 ..).mp (gY h);exact⟨cur',fz,pZ w b' cur cur' e fz hb,hs⟩
  ·exact⟨cur2,fz2,by rw[oq w b b' cur' hne];exact h,rfl⟩
def nI {H:Mu}{lev i:Nat}{o:Ob}(h:b6 (b7 H lev i))(l j:Nat):b7 (cq H lev i o) l j=if l=lev/\j=i then o else b7 H l j:=by
 unfold cq;cases hl:H[lev]? with
 |none=>simp only[b7,hl]at h;exact h.elim|some lam=>
  have hlt:lev<H.length:=(dm.1 hl).1;have hi:i<lam.length:=by
   simp only[b7,hl]at h;by_cases hi:i<lam.length
   ·exact hi
   ·rw[fq bu]at h;exact h.elim
  simp only[b7];grind
def kU {H:Mu}{lev i:Nat}{o:Ob}:(cq H lev i o).length=H.length/\ ∀l,((cq H lev i o).getD l []).length=(H.getD l []).length:=by
 unfold cq;cases hl:H[lev]? with|none=>exact⟨rfl,λ_=>rfl⟩|some lam=>grind
def Rel.setOb {s s1:S}{μ μ1:Mu}{tm:Array Value}(R:Rel G L s μ tm w){lev i:Nat}{o':Ob}(hl:b6 (bP (μ++[s.lam]) lev i)){cur cur':Array Value}{e:TypeId}{fz:Nat×Nat}
 (hb:w.heap[G.β lev i]? =some (.cells cur e fz)) (hs:cur'.size=cur.size)
 (hfr:s1.fr=s.fr) (hp:s1.pushed=s.pushed) (hlen:s1.lam.length=s.lam.length) (hμlen:μ1.length=μ.length) (hH:μ1++[s1.lam]=cq (μ++[s.lam]) lev i o')
 (hob: ∀G' w',Le G w G' w'->G'=G->w'=w.setRow (G.β lev i) cur'->(lev=L->ObR G' w' L s.lam.length (G.β lev i) (G.sz lev i) o')/\(lev<L->ObR (G'.below lev) w' lev 0 (G.β lev i) (G.sz lev i) o'))
 (hown : ∀ cs' k b, o' = .cells cs' -> eZ cs' cur' k b -> bF G w s.fr tm (μ ++ [s.lam]) (.ob lev i k) b \/
  ((∀l,¬bF G w s.fr tm (μ++[s.lam]) l b)/\(∀lev i,b6 (bP (μ++[s.lam]) lev i)->G.β lev i≠b)/\ ∀k',eZ cs' cur' k' b->k'=k)):
 Rel G L s1 μ1 tm (w.setRow (G.β lev i) cur')/\Le G w G (w.setRow (G.β lev i) cur')/\
 (∀b,jz G (w.setRow (G.β lev i) cur') s1.fr tm (μ1++[s1.lam]) b->jz G w s.fr tm (μ++[s.lam]) b\/ ∃cs' k,o'= .cells cs'/\eZ cs' cur' k b)/\
 (∀l b,bF G (w.setRow (G.β lev i) cur') s1.fr tm (μ1++[s1.lam]) l b->bF G w s.fr tm (μ++[s.lam]) l b\/ ∃cs' k,o'= .cells cs'/\eZ cs' cur' k b/\l= .ob lev i k)/\
 (∀k b,bF G (w.setRow (G.β lev i) cur') s1.fr tm (μ1++[s1.lam]) (.ob lev i k) b-> ∃cs',o'= .cells cs'/\eZ cs' cur' k b)/\
 (∀l j,b6 (bP (μ1++[s1.lam]) l j)->b6 (bP (μ++[s.lam]) l j)):=by
 have hO:G.O (G.β lev i)=0:=by
  rcases e8 R.lev hl with⟨h1,h2⟩|⟨rfl,h1,h2⟩
  ·have:=R.mu lev i h1;rw[<-h2]at this;revert this hl;cases bP (μ++[s.lam]) lev i with
   |dead=>intro h;exact h.elim|cells cs=>intro _ h;simp only[ObR]at h;obtain⟨_,_,_,_,_,h,_⟩:=h;exact h
   |arr k cs=>intro _ h;simp only[ObR]at h;obtain⟨_,_,_,_,_,_,h,_⟩:=h;exact h
   |map ks vs=>intro _ h;simp only[ObR]at h;obtain⟨_,_,_,h,_⟩:=h;exact h
  ·have:=R.lam i;rw[<-h2]at this;revert this hl;cases bP (μ++[s.lam]) lev i with
   |dead=>intro h;exact h.elim|cells cs=>intro _ h;simp only[ObR]at h;obtain⟨_,_,_,_,_,h,_⟩:=h;exact h
   |arr k cs=>intro _ h;simp only[ObR]at h;obtain⟨_,_,_,_,_,_,h,_⟩:=h;exact h
   |map ks vs=>intro _ h;simp only[ObR]at h;obtain⟨_,_,_,h,_⟩:=h;exact h
 have hle:=Sb (G:=G) hb hO hs;have hset:=nI (o:=o') hl;have hAt: ∀l j,bP (μ1++[s1.lam]) l j=if l=lev/\j=i then o' else bP (μ++[s.lam]) l j:=λl j=>by rw[bP,hH];exact hset l j
 have hlvl:lev<=L:=by rcases e8 R.lev hl with⟨h1,_⟩|⟨h1,_⟩<;>omega
 have hblk: ∀b,b≠G.β lev i->(w.setRow (G.β lev i) cur').heap[b]? =w.heap[b]? :=λb h=>oq w _ b cur' h;have hlive: ∀l j,b6 (bP (μ1++[s1.lam]) l j)->b6 (bP (μ++[s.lam]) l j):=by grind
 have hne: ∀l j,b6 (bP (μ++[s.lam]) l j)-> ¬(l=lev/\j=i)->G.β l j≠G.β lev i:=λl j h hn e=>hn (R.inj l j lev i h hl e);have hownAt: ∀l b,bF G (w.setRow (G.β lev i) cur') s1.fr tm (μ1++[s1.lam]) l b->(bF G w s.fr tm (μ++[s.lam]) l b)\/
  ∃cs' k,o'= .cells cs'/\eZ cs' cur' k b/\l= .ob lev i k/\((∀l,¬bF G w s.fr tm (μ++[s.lam]) l b)/\(∀lev i,b6 (bP (μ++[s.lam]) lev i)->G.β lev i≠b)/\ ∀k',eZ cs' cur' k' b->k'=k):=by
  intro l b h;cases l with
  |fr t=>rw[hfr]at h;exact .inl h|ob l j k=>
   simp only[bF]at h;split at h<;>try(exact h.elim)
   rename_i cs hcs;split at h<;>try(exact h.elim)
   rename_i x hx;obtain⟨cur2,e2,fz2,hb2,ho⟩:=h;rw[hAt]at hcs;split at hcs
   ·rename_i e;obtain⟨rfl,rfl⟩:=e;rw[pZ w _ cur cur' e fz hb]at hb2;obtain⟨rfl,_⟩:=(j4 ..).mp (gY hb2);rcases hown cs k b hcs ⟨x,hx,ho⟩with h|h
    ·exact .inl h
    ·exact .inr ⟨cs,k,hcs,⟨x,hx,ho⟩,rfl,h⟩
   ·rename_i e;have hl2:b6 (bP (μ++[s.lam]) l j):=by rw[hcs];trivial
    rw[hblk _ (hne l j hl2 e)]at hb2;left;simp only[bF,hcs,hx];exact⟨cur2,e2,fz2,hb2,ho⟩
 have hownBlk: ∀l b,bF G w s.fr tm (μ++[s.lam]) l b->(w.setRow (G.β lev i) cur').heap[b]? =w.heap[b]? /\G.O b=G.O b:=λl b h=>⟨hblk b λe=>R.apart l b lev i h hl e.symm,rfl⟩;refine⟨⟨by rw[hμlen];exact R.lev,λt=> ?_,λj=> ?_,λl j hlt=> ?_,λl j l' j' h h' e'=>R.inj l j l' j' (hlive l j h) (hlive l' j' h') e',λl l' b h h'=> ?_,λl b l' j h h' e'=> ?_,λl hlt=> ?_,?_,R.ngt⟩,hle,λb hb=> ?_,λl b h=>(hownAt l b h).imp id λ⟨cs,k,h1,h2,h3,_⟩=>⟨cs,k,h1,h2,h3⟩,λk b h=> ?_,hlive⟩
 ·rw[hfr,hlen];exact fw hle (cw _) (λ_ _=>⟨rfl,rfl⟩) _ _ (λb hb=>hownBlk (.fr t) b hb) (R.fr t)
 ·rw[hlen];have e1:bP (μ1++[s1.lam]) L j=bQ s1.lam j:=by rw[<-R.lev,<-hμlen];exact cV
  have e2:bP (μ++[s.lam]) L j=bQ s.lam j:=by rw[<-R.lev];exact cV
  rw[<-e1,hAt];split
  ·rename_i e;obtain⟨rfl,rfl⟩:=e;exact(hob G _ hle rfl rfl).1 rfl
  ·rename_i e;rw[e2];refine ey hle (cw _) (λ_ _=>⟨rfl,rfl⟩) (λh=>⟨hblk _ (hne L j (by rw[e2];exact h) e),rfl⟩) (λcs k x cur e fz ho hx hb b' hb'=>hownBlk (.ob L j k) b' ?_) (R.lam j);simp only[bF,e2,ho,hx];exact⟨cur,e,fz,hb,hb'⟩
 ·have e1:bP (μ1++[s1.lam]) l j=b7 μ1 l j:=cS (by rw[hμlen,R.lev];exact hlt);have e2:bP (μ++[s.lam]) l j=b7 μ l j:=cS (by rw[R.lev];exact hlt);rw[<-e1,hAt];split
  ·rename_i e;obtain⟨rfl,rfl⟩:=e;exact(hob G _ hle rfl rfl).2 hlt
  ·rename_i e;rw[e2];refine ey (hle.below l) (cw _) (λ_ h=>by omega) (λh=>⟨hblk _ (hne l j (by rw[e2];exact h) e),rfl⟩) (λcs k x cur e fz ho hx hb b' hb'=>hownBlk (.ob l j k) b' ?_) (R.mu l j hlt);simp only[bF,e2,ho,hx];exact⟨cur,e,fz,hb,hb'⟩
 ·rcases hownAt l b h with h1|⟨cs,k,h1,h2,rfl,h3⟩<;>rcases hownAt l' b h' with h1'|⟨cs',k',h1',h2',rfl,h3'⟩
  ·exact R.own l l' b h1 h1'
  ·exact absurd h1 (h3'.1 l)
  ·exact absurd h1' (h3.1 l')
  ·rw[h1]at h1';injection h1' with h1';subst h1';rw[h3.2.2 k' h2']
 ·rcases hownAt l b h with h1|⟨cs,k,h1,h2,rfl,h3⟩
  ·exact R.apart l b l' j h1 (hlive l' j h') e'
  ·exact h3.2.1 l' j (hlive l' j h') e'
 ·have h1:(μ1.getD l []).length=(μ.getD l []).length:=by
   have:=(kU (H:=μ++[s.lam]) (lev:=lev) (i:=i) (o:=o')).2 l;rw[<-hH]at this;have a1:l<μ1.length:=by rw[hμlen,R.lev];exact hlt
   have a2:l<μ.length:=by rw[R.lev];exact hlt
   simp only[fp,fN a1,fN a2]at this |-;exact this
  rw[h1];exact R.nlt l hlt
 ·rw[hp,hlen];exact R.nL
 ·rcases hb with⟨l,hb⟩|⟨l,j,h,rfl⟩
  ·rcases hownAt l b hb with h1|⟨cs,k,h1,h2,_⟩
   ·exact .inl (.inl ⟨l,h1⟩)
   ·exact .inr ⟨cs,k,h1,h2⟩
  ·exact .inl (.inr ⟨l,j,hlive l j h,rfl⟩)
 ·simp only[bF]at h;split at h<;>try(exact h.elim)
  rename_i cs hcs;split at h<;>try(exact h.elim)
  rename_i x hx;obtain⟨cur2,e2,fz2,hb2,ho⟩:=h;rw[hAt,bK ⟨rfl,rfl⟩]at hcs;rw[pZ w _ cur cur' e fz hb]at hb2;obtain⟨rfl,_⟩:=(j4 ..).mp (gY hb2);exact⟨cs,hcs,x,hx,ho⟩
def ZA {s:S}{μ:Mu}{tm:Array Value}(R:Rel G L s μ tm w){lev i:Nat}{cs:List LV}(h:bP (μ++[s.lam]) lev i= .cells cs):
 ∃cur e fz,w.heap[G.β lev i]? =some (.cells cur e fz)/\g9 cur fz/\cs.length<=cur.size/\
  ((lev = L /\ i < s.lam.length /\ bQ s.lam i = .cells cs /\ ∀ j x, cs[j]? = some x -> LVR G w L s.lam.length x (cur.getD j undef)) \/
   (lev<L/\b7 μ lev i= .cells cs/\ ∀j x,cs[j]? =some x->LVR (G.below lev) w lev 0 x (cur.getD j undef))):=by
 have hl:b6 (bP (μ++[s.lam]) lev i):=by rw[h];trivial
 rcases e8 R.lev hl with⟨h1,h2⟩|⟨rfl,h1,h2⟩
 ·rw[h]at h2;have:=R.mu lev i h1;rw[<-h2]at this;simp only[ObR]at this;grind
 ·rw[h]at h2;have:=R.lam i;rw[<-h2]at this;simp only[ObR]at this;grind
def Rel.takeOb {s s1:S}{μ μ1:Mu}{tm:Array Value}(R:Rel G L s μ tm w){lev i off:Nat}{cs:List LV}{x:LV}(hob:bP (μ++[s.lam]) lev i= .cells cs)(hx:cs[off]? =some x)
 (hfr:s1.fr=s.fr) (hp:s1.pushed=s.pushed) (hlen:s1.lam.length=s.lam.length) (hμlen:μ1.length=μ.length) (hH:μ1++[s1.lam]=cq (μ++[s.lam]) lev i (.cells (cs.set off (strip x)))):
 ∃cur e fz,w.heap[G.β lev i]? =some (.cells cur e fz)/\off<cur.size/\Rel G L s1 μ1 tm w/\
  (∀b,jz G w s1.fr tm (μ1++[s1.lam]) b->jz G w s.fr tm (μ++[s.lam]) b)/\
  ((lev=L/\LVR G w L s.lam.length x (cur.getD off undef))\/(lev<L/\LVR (G.below lev) w lev 0 x (cur.getD off undef)))/\
  (∀b,bZ x (cur.getD off undef) b->(∀l,¬bF G w s1.fr tm (μ1++[s1.lam]) l b)/\(∀l j,b6 (bP (μ1++[s1.lam]) l j)->G.β l j≠b)/\jz G w s.fr tm (μ++[s.lam]) b):=by
 obtain⟨cur,e,fz,hb,hu,hsz,hcase⟩:=ZA R hob;have hoff:off<cs.length:=(dm.1 hx).1;have hl:b6 (bP (μ++[s.lam]) lev i):=by rw[hob];trivial
 have hown0: ∀k b,eZ (cs.set off (strip x)) cur k b->k≠off/\bF G w s.fr tm (μ++[s.lam]) (.ob lev i k) b:=by
  intro k b ⟨y,hy,ho⟩;by_cases hk:k=off
  ·subst hk;rw[tf hoff]at hy;simp only[bJ]at hy;subst hy;exact absurd ho mB
  ·rw[vC bu]at hy;refine⟨hk,?_⟩;simp only[bF,hob,hy];simp_all
 obtain⟨R1,_,hT,hO1,hO2,hlv⟩:=R.setOb (s1:=s1) (μ1:=μ1) (o':= .cells (cs.set off (strip x))) hl hb (cur':=cur) rfl hfr hp hlen hμlen hH
  (λG' w' hle hG hw => by
   subst hG;rw[Bg w _ cur e fz hb]at hw;subst hw;refine⟨λhL=> ?_,λhL=> ?_⟩
   ·rcases hcase with⟨_,_,h2,h3⟩|⟨h1,_⟩
    ·have:=R.lam i;rw[h2]at this;simp only[ObR]at this |-;obtain⟨cur',e',fz',hb',hu',hO',hs',hr'⟩:=this;rw[hL];refine⟨cur',e',fz',hb',hu',hO',by simpa using hs',λj y hy=> ?_⟩;by_cases hj:j=off
     ·subst hj;rw[tf hoff]at hy;simp only[bJ]at hy;subst hy;exact nS (hr' j x hx)
     ·rw[vC bu]at hy;exact hr' j y hy
    ·omega
   ·rcases hcase with⟨h1,_⟩|⟨_,h2,h3⟩
    ·omega
    ·have:=R.mu lev i hL;rw[h2]at this;simp only[ObR]at this |-;obtain⟨cur',e',fz',hb',hu',hO',hs',hr'⟩:=this;refine⟨cur',e',fz',hb',hu',hO',by simpa using hs',λj y hy=> ?_⟩;by_cases hj:j=off
     ·subst hj;rw[tf hoff]at hy;simp only[bJ]at hy;subst hy;exact nS (hr' j x hx)
     ·rw[vC bu]at hy
      exact hr' j y hy)
  (λcs' k b he ho => by
   injection he with he;subst he
   exact .inl (hown0 k b ho).2)
 rw[Bg w _ cur e fz hb]at R1 hT hO1 hO2;refine⟨cur,e,fz,hb,bu,R1,λb hb=> ?_,?_,λb ho=> ?_⟩
 ·rcases hT b hb with h|⟨cs',k,he,ho⟩
  ·exact h
  ·injection he with he;subst he;exact .inl ⟨_,(hown0 k b ho).2⟩
 ·rcases hcase with⟨h1,_,_,h3⟩|⟨h1,_,h3⟩
  ·exact .inl ⟨h1,h3 off x hx⟩
  ·exact .inr ⟨h1,h3 off x hx⟩
 ·have hown:bF G w s.fr tm (μ++[s.lam]) (.ob lev i off) b:=by simp only[bF,hob,hx];exact⟨cur,e,fz,hb,ho⟩
  refine⟨λl h=> ?_,λl j h=>R.apart _ b l j hown (hlv l j h),.inl ⟨_,hown⟩⟩;have hold:bF G w s.fr tm (μ++[s.lam]) l b:=by
   rcases hO1 l b h with h|⟨cs',k,he,ho',rfl⟩
   ·exact h
   ·injection he with he;subst he;exact(hown0 k b ho').2
  have hl:=R.own l _ b hold hown;subst hl;obtain⟨cs',he,ho'⟩:=hO2 off b h;injection he with he;subst he;exact(hown0 off b ho').1 rfl
end
section
variable {G:Gh}{w:World}{L:Nat}{P:Program}
def z8: ∀{cs:List LV} {l:List CV},nD cs=some l->l.length=cs.length/\ ∀(j:Nat) c,l[j]? =some c-> ∃x,cs[j]? =some x/\cx x=some c
 |[],l,h=>by simp only[nD,bJ]at h;subst h;exact⟨rfl,λj c hc=>by simp at hc⟩|x::r,l,h=>by simp only[nD]at h;obtain⟨c,h1,h2⟩:=bz.1 h;obtain⟨l',h3,h4⟩:=bz.1 h2;simp only[bJ]at h4;subst h4;obtain⟨e,hg⟩:=z8 h3;grind
def CL_of {b:Nat}: ∀{cs:List CV} {off:Nat},(∀(j:Nat) c,cs[j]? =some c-> ∃v,w.cell? ⟨b,off+j,none⟩=some v/\off+j<G.O b/\VR G w c v)->CL G w b off cs
 |[],off,_=>by simp[CL]|c::r,off,h=>by simp only[CL];refine⟨by simpa using h 0 c rfl,CL_of λj c' hc=> ?_⟩;have:=h (j+1) c' (by simpa using hc);grind
def qF {l:Lam}{i:Nat}{o:Ob}(h:i<l.length)(j:Nat):bQ (l.set i o) j=if j=i then o else bQ l j:=by simp only[bQ];grind
def cell_of_heap {b j:Nat}{cur:Array Value}{e:TypeId}{fz:Nat×Nat}(h:w.heap[b]? =some (.cells cur e fz))(hj:j<cur.size):w.cell? ⟨b,j,none⟩=some (cur.getD j undef):=by rw[cell_of_row w b j cur e fz h];simp_all
def Rel.freezeOb {s:S}{μ:Mu}{tm:Array Value}(R:Rel G L s μ tm w){i t n:Nat}{x:LV}(hl:b6 (bQ s.lam i))
 (hx:Le G w (G.setO (G.β L i) n) w->LVR (G.setO (G.β L i) n) w L s.lam.length x (tm.getD t undef)) (hno: ∀b,¬bZ x (tm.getD t undef) b):
 let G':=G.setO (G.β L i) n;let s':S:={s with fr:=upd s.fr t x,lam:=s.lam.set i .dead}
 Rel G' L s' μ tm w/\Ext L (bH G w s μ tm) G w G' w (bH G' w s' μ tm):=by
 intro G' s';have hi:=ld hl;have e0: ∀j,bP (μ++[s.lam]) L j=bQ s.lam j:=λj=>by rw[<-R.lev];exact cV
 have e1: ∀j,bP (μ++[s'.lam]) L j=bQ s'.lam j:=λj=>by rw[<-R.lev];exact cV
 have hl':b6 (bP (μ++[s.lam]) L i):=by rw[e0];exact hl
 have hOb:G.O (G.β L i)=0:=by
  have:=R.lam i;revert this hl;cases bQ s.lam i with
  |dead=>intro h;exact h.elim|cells cs=>intro _ h;simp only[ObR]at h;obtain⟨_,_,_,_,_,h,_⟩:=h;exact h
  |arr k cs=>intro _ h;simp only[ObR]at h;obtain⟨_,_,_,_,_,_,h,_⟩:=h;exact h
  |map ks vs=>intro _ h;simp only[ObR]at h;obtain⟨_,_,_,h,_⟩:=h;exact h
 have hle:Le G w G' w:=by
  refine⟨λb es clk h hb=>⟨?_,hb⟩,λ_ _ h=>⟨h,rfl,rfl⟩,λb off v h hc=>⟨?_,hc⟩,λb cur e fz h=>⟨cur,fz,h,rfl⟩⟩
  ·by_cases hbb:b=G.β L i
   ·subst hbb;omega
   ·rw[dU hbb];exact h
  by_cases hbb:b=G.β L i
  ·subst hbb;omega
  ·rw[dU hbb];exact h
 have hset: ∀j,bQ s'.lam j=if j=i then .dead else bQ s.lam j:=λj=>qF hi j;have hlen:s'.lam.length=s.lam.length:=by simp[s']
 have hlive: ∀l j,b6 (bP (μ++[s'.lam]) l j)->b6 (bP (μ++[s.lam]) l j)/\bP (μ++[s'.lam]) l j=bP (μ++[s.lam]) l j/\ ¬(l=L/\j=i):=by
  intro l j h;rcases e8 (s:=s') R.lev h with⟨h1,h2⟩|⟨rfl,h1,h2⟩
  ·have:bP (μ++[s.lam]) l j=b7 μ l j:=cS (by rw[R.lev];exact h1);rw[h2]at h |-;exact⟨by rw[this];exact h,this.symm,bu⟩
  ·rw[h2,hset]at h;rw[h2,hset,e0];split at h
   ·exact h.elim
   ·rename_i hj;rw[bE hj];exact⟨h,rfl,by simpa using hj⟩
 have hO: ∀l j,b6 (bP (μ++[s.lam]) l j)-> ¬(l=L/\j=i)->G'.O (G.β l j)=G.O (G.β l j):=λl j h hn=>dU λe=>hn (R.inj l j L i h hl' e);have hOo: ∀l b,bF G w s.fr tm (μ++[s.lam]) l b->G'.O b=G.O b:=λl b h=>dU λe=>R.apart l b L i h hl' e.symm;have hownAt: ∀l b,bF G' w s'.fr tm (μ++[s'.lam]) l b->bF G w s.fr tm (μ++[s.lam]) l b:=by
  intro l b h;cases l with
  |fr u=>
   simp only[bF,s']at h |-;by_cases hu:u=t
   ·subst hu;rw[jt]at h;exact absurd h (hno b)
   ·rw[iA _ _ hu]at h;exact h
  |ob l j k=>
   simp only[bF]at h |-;split at h<;>try(exact h.elim)
   rename_i cs hcs;obtain⟨_,h2,_⟩:=hlive l j (by rw[hcs];trivial);rw[<-h2,hcs];exact h
 refine⟨⟨R.lev,λu=> ?_,λj=> ?_,λl j hlt=> ?_,λl j l' j' h h' e'=>R.inj l j l' j' (hlive l j h).1 (hlive l' j' h').1 e',λl l' b h h'=>R.own l l' b (hownAt l b h) (hownAt l' b h'),λl b l' j h h' e'=>R.apart l b l' j (hownAt l b h) (hlive l' j h').1 e',R.nlt,?_,R.ngt⟩,?_⟩
 ·rw[hlen];by_cases hu:u=t
  ·subst hu;simp only[s',jt];exact hx hle
  ·simp only[s',iA _ _ hu];exact fw hle (cw _) (λ_ _=>⟨rfl,rfl⟩) _ _ (λb hb=>⟨rfl,hOo (.fr u) b hb⟩) (R.fr u)
 ·rw[hlen,hset];split
  ·trivial
  ·rename_i hj;refine ey hle (cw _) (λ_ _=>⟨rfl,rfl⟩) (λh=>⟨rfl,hO L j (by rw[e0];exact h) (by simpa using hj)⟩) (λcs k x cur e fz ho hx hb b' hb'=>⟨rfl,hOo (.ob L j k) b' ?_⟩) (R.lam j);simp only[bF,e0,ho,hx];exact⟨cur,e,fz,hb,hb'⟩
 ·have e2:bP (μ++[s.lam]) l j=b7 μ l j:=cS (by rw[R.lev];exact hlt);refine ey (hle.below l) (cw _) (λ_ h=>by omega) (λh=>⟨rfl,hO l j (by rw[e2];exact h) bu⟩) (λcs k x cur e fz ho hx hb b' hb'=>⟨rfl,hOo (.ob l j k) b' ?_⟩) (R.mu l j hlt);simp only[bF,e2,ho,hx];exact⟨cur,e,fz,hb,hb'⟩
 ·rw[hlen];exact R.nL
 ·refine⟨hle,rfl,rfl,rfl,cw _,λb hb hn=>⟨rfl,dU λe=>hn (.inr ⟨L,i,hl',e.symm⟩)⟩,λb hb=> .inl ?_,λ_ _=>⟨λ_=>⟨rfl,rfl⟩,rfl⟩⟩;rcases hb with⟨l,hb⟩|⟨l,j,h,rfl⟩
  ·exact .inl ⟨l,hownAt l b hb⟩
  ·exact .inr ⟨l,j,(hlive l j h).1,rfl⟩
def Rel.freezeFr {s:S}{μ:Mu}{tm:Array Value}{t b n:Nat}{x:LV}(R:Rel G L s μ tm w)(hb:(bZ (s.fr t) (tm.getD t undef) b/\G.O b=0)\/n=G.O b)
 (hx:Le G w (G.setO b n) w->LVR (G.setO b n) w L s.lam.length x (tm.getD t undef)) (hno: ∀b',¬bZ x (tm.getD t undef) b'):
 Rel (G.setO b n) L {s with fr:=upd s.fr t x} μ tm w/\Ext L (bH G w s μ tm) G w (G.setO b n) w (bH (G.setO b n) w {s with fr:=upd s.fr t x} μ tm):=by
 have e0: ∀j,bP (μ++[s.lam]) L j=bQ s.lam j:=λj=>by rw[<-R.lev];exact cV
 have hset:n=G.O b-> ∀b',(G.setO b n).O b'=G.O b':=λh b'=>by
  by_cases hbb:b'=b
  ·subst hbb;rw[fh,h]
  ·exact dU hbb
 have hle:Le G w (G.setO b n) w:=by
  refine⟨λb1 es clk h hb1=>⟨?_,hb1⟩,λ_ _ h=>⟨h,rfl,rfl⟩,λb1 off v h hc=>⟨?_,hc⟩,λb1 cur e fz h=>⟨cur,fz,h,rfl⟩⟩
  ·by_cases hbb:b1=b
   ·grind
   ·rw[dU hbb];exact h
  by_cases hbb:b1=b
  ·grind
  ·rw[dU hbb];exact h
 have hO: ∀l j,b6 (bP (μ++[s.lam]) l j)->(G.setO b n).O (G.β l j)=G.O (G.β l j):=λl j h=>hb.elim (λhb=>dU (R.apart (.fr t) b l j hb.1 h)) λhb=>hset hb _;have hOo: ∀l b',l≠ .fr t->bF G w s.fr tm (μ++[s.lam]) l b'->(G.setO b n).O b'=G.O b':=λl b' hl h=>hb.elim (λhb=>dU λe=>by subst e;exact hl (R.own l (.fr t) b' h hb.1)) λhb=>hset hb _;have hownAt: ∀l b',bF (G.setO b n) w (upd s.fr t x) tm (μ++[s.lam]) l b'->bF G w s.fr tm (μ++[s.lam]) l b':=by
  intro l b' h;cases l with
  |fr u=>
   simp only[bF]at h |-;by_cases hu:u=t
   ·subst hu;rw[jt]at h;exact absurd h (hno b')
   ·rw[iA _ _ hu]at h;exact h
  |ob l j k=>exact h
 refine⟨⟨R.lev,λu=> ?_,λj=> ?_,λl j hlt=> ?_,R.inj,λl l' b' h h'=>R.own l l' b' (hownAt l b' h) (hownAt l' b' h'),λl b' l' j h h' e'=>R.apart l b' l' j (hownAt l b' h) h' e',R.nlt,R.nL,R.ngt⟩,?_⟩
 ·by_cases hu:u=t
  ·subst hu;simp only[jt];exact hx hle
  ·simp only[iA _ _ hu];exact fw hle (cw _) (λ_ _=>⟨rfl,rfl⟩) _ _ (λb' hb'=>⟨rfl,hOo (.fr u) b' (by simpa using hu) hb'⟩) (R.fr u)
 ·refine ey hle (cw _) (λ_ _=>⟨rfl,rfl⟩) (λh=>⟨rfl,hO L j (by rw[e0];exact h)⟩) (λcs k x cur e fz ho hx hb1 b' hb'=>⟨rfl,hOo (.ob L j k) b' bG ?_⟩) (R.lam j);simp only[bF,e0,ho,hx];exact⟨cur,e,fz,hb1,hb'⟩
 ·have e2:bP (μ++[s.lam]) l j=b7 μ l j:=cS (by rw[R.lev];exact hlt);refine ey (hle.below l) (cw _) (λ_ h=>by omega) (λh=>⟨rfl,hO l j (by rw[e2];exact h)⟩) (λcs k x cur e fz ho hx hb1 b' hb'=>⟨rfl,hOo (.ob l j k) b' bG ?_⟩) (R.mu l j hlt);simp only[bF,e2,ho,hx];exact⟨cur,e,fz,hb1,hb'⟩
 ·refine⟨hle,rfl,rfl,rfl,cw _,λb' hb1 hn=>⟨rfl,hb.elim (λhb=>dU λe=>hn (.inl ⟨.fr t,by subst e;exact hb.1⟩)) λhb=>hset hb _⟩,λb' hb1=> .inl ?_,λ_ _=>⟨λ_=>⟨rfl,rfl⟩,rfl⟩⟩;rcases hb1 with⟨l,hb1⟩|⟨l,j,h,rfl⟩
  ·exact .inl ⟨l,hownAt l b' hb1⟩
  ·exact .inr ⟨l,j,h,rfl⟩
def Ie {b n:Nat}{cur:Array Value}{e:TypeId}{fz:Nat×Nat}(hb:w.heap[b]? =some (.cells cur e fz))(hO:G.O b=n)(hn:n<=cur.size): ∀(off:Nat) (xs:List Value),off+xs.length<=n->
 (∀(j:Nat) x,xs[j]? =some x->cur.getD (off+j) undef=x)->EL G w b 1 off (xs.map .v)
 |off,[],_,_=>by simp[EL]|off,x::r,hl,h=>by simp only[cB]at hl;simp only[dQ,EL,VR];refine⟨⟨cur.getD off undef,cell_of_heap hb bu,bu,by simpa using h 0 x rfl⟩,Ie hb hO hn (off+1) r bu λj y hy=> ?_⟩;have:=h (j+1) y (by simpa using hy);grind
def Hy {t:Nat}{s s':S}{μ:Mu}{tm:Array Value}(h:Fw t s=some s')(R:Rel G L s μ tm w):
 ∃G',Rel G' L s' μ tm w/\Ext L (bH G w s μ tm) G w G' w (bH G' w s' μ tm):=by
 unfold Fw at h;split at h
 rotate_left
 ·rename_i i hfr;split at h<;>try(simp at h;done)
  rename_i ks vs hob';simp only[bJ]at h;subst h;have hob:=R.lam i;rw[hob']at hob;simp only[ObR]at hob;obtain⟨es,clk,hb,hO,hk,hr⟩:=hob;have hv:=R.fr t;rw[hfr]at hv;simp only[LVR]at hv;refine⟨_,R.freezeOb (n:=1) (by rw[hob'];trivial) (λhle=> ?_) (λb hb=>by simp[bZ]at hb)⟩;rw[hv.2];simp only[LVR,VR];exact⟨_,es,clk,rfl,hb,by rw[fh];omega,hk,k7 hle vs _ hr⟩
 ·rename_i xs hfr;simp only[bJ]at h;subst h;have hv:=R.fr t;rw[hfr]at hv;simp only[LVR]at hv;rcases hv with⟨h1,h2⟩|⟨b,cap,cur,e,hv,hb,h1,h2,h3,h4,h5⟩
  ·subst h1;refine⟨_,R.freezeFr (n:=G.O 0) (b:=0) (.inr rfl) (λhle=> ?_) (λb hb=>by simp[bZ]at hb)⟩;rw[h2];simp only[LVR];exact Sg
  refine⟨_,R.freezeFr (n:=xs.length) (b:=b) (.inl ⟨by rw[hfr,hv];simp[bZ],h4⟩) (λhle=> ?_) (λb hb=>by simp[bZ]at hb)⟩;rw[hv];simp only[LVR,VR];refine⟨_,_,_,rfl,bG,h1,.inr ⟨b,0,1,rfl,λx hx=> ?_,Ie hb (fh ..) bu 0 xs bu (λj x hx=>by simpa using h5 j x hx)⟩⟩;obtain⟨y,_,rfl⟩:=nv.1 hx;rfl
 ·simp at h
 rename_i i off hfr;split at h<;>try(simp at h;done)
 rename_i h0;simp only[dn]at h0;subst h0;split at h<;>try(simp at h;done)
 rename_i cs hcs;obtain⟨l,hl,h⟩:=bz.1 h;simp only[bJ]at h;subst h;have hob:=R.lam i;rw[hcs]at hob;simp only[ObR]at hob;obtain⟨cur,e,fz,hb,hu,hO,hsz,hr⟩:=hob;have hv:=R.fr t;rw[hfr]at hv;simp only[LVR]at hv;obtain⟨e1,hg⟩:=z8 hl;refine⟨_,R.freezeOb (n:=cur.size) (by rw[hcs];trivial) (λhle=> ?_) (λb hb=>by simp[bZ]at hb)⟩;rw[hv.2];simp only[LVR,VR];refine⟨_,_,rfl,CL_of λj c hc=> ?_⟩;obtain⟨c',hc',hcc⟩:=t8 hc;obtain⟨x,hx,hgc⟩:=hg j c' hc';have hj:j<cur.size:=by have:=(dm.1 hx).1;omega
 refine⟨cur.getD j undef,?_,?_,hcc _ _ _ (cZ hle c' _ (it hgc (hr j x hx)))⟩
 ·rw[gC];exact cell_of_heap hb hj
 ·rw[fh];omega
def xG: ∀{ts:List Nat} {s s':S} {μ:Mu} {tm:Array Value} {G:Gh},uX ts s=some s'->Rel G L s μ tm w->
 ∃G',Rel G' L s' μ tm w/\Ext L (bH G w s μ tm) G w G' w (bH G' w s' μ tm)
 |[],s,s',μ,tm,G,h,R=>by simp only[uX,bJ]at h;subst h;exact⟨G,R,Ext.refl G w λ_ h=>h⟩|t::r,s,s',μ,tm,G,h,R=>by simp only[uX]at h;obtain⟨s1,h1,h2⟩:=bz.1 h;obtain⟨G1,R1,E1⟩:=Hy h1 R;obtain⟨G2,R2,E2⟩:=xG h2 R1;exact⟨G2,R2,E1.trans E2⟩
def DA {isA:Bool}{sz:Nat}: ∀(n:Nat) (cs:List CV),(ko isA sz n cs).length=n
 |0,cs=>rfl|n+1,cs=>by simp[ko,DA n]
def BP: ∀(n:Nat) {cs:List CV},fD cs=true->fD (cs.drop n)=true
 |0,cs,h=>h|n+1,[],h=>rfl|n+1,c::r,h=>by
  simp only[fD]at h;split at h<;>try(simp at h;done)
  simpa using BP n h
def GC {isA:Bool}{sz b:Nat}: ∀(n off:Nat) (cs:List CV),(isA=true\/(sz=1/\fD cs=true))->n*sz<=cs.length->CL G w b off cs->
 (∀x∈ko isA sz n cs,x.cells.length=sz)/\EL G w b sz off (ko isA sz n cs)
 |0,off,cs,_,_,_=>by simp[ko,EL]|n+1,off,cs,hz,hl,h=>by
  have hl':n*sz+sz<=cs.length:=by rw[pm]at hl;omega
  obtain⟨h1,h2⟩:=GC n (off+sz) (cs.drop sz) (hz.imp id λhz=>⟨hz.1,BP sz hz.2⟩) (by simp only[gZ];omega) (uB sz h);cases isA with
  |true=>simp only[ko,eE,forall_eq_or_imp,EL];refine⟨⟨?_,h1⟩,EU sz h,h2⟩;simp only[CV.cells,nu];omega|false=>
   obtain⟨hz1,hs⟩:sz=1/\fD cs=true:=by rcases hz with hz|hz<;>simp_all
   subst hz1;cases cs with
   |nil=>simp at hl'|cons c r=>
    simp only[ko,List.headD_cons,eE,forall_eq_or_imp];simp only[fD]at hs;split at hs<;>try(simp at hs;done)
    rename_i hs1;simp only[CL]at h;cases c<;>simp only[cY,eD]at hs1<;>simp only[EL]<;>exact⟨⟨rfl,h1⟩,h.1,h2⟩
def DJ {t:Nat}{e:TypeId}{s s':S}{μ:Mu}{tm:Array Value}(h:n8 P t e s=some s')(R:Rel G L s μ tm w):
 ∃G',Rel G' L s' μ tm w/\Ext L (bH G w s μ tm) G w G' w (bH G' w s' μ tm):=by
 unfold n8 at h;split at h<;>try(simp at h;done)
 rename_i i off len hfr;split at h<;>try(simp at h;done)
 rename_i h0;simp only[dn]at h0;subst h0;split at h<;>try(simp at h;done)
 rename_i sz cs hcs;obtain⟨n,hn,h⟩:=bz.1 h;obtain⟨hsz,h⟩:=bM.1 h;obtain⟨hg,h⟩:=bM.1 h;simp only[bJ]at h;subst h;have hsz:=eC hsz;subst hsz;simp only[cM,jw]at hg;obtain⟨hg1,hg2⟩:=hg;have hg2:=fO hg2;have hob:=R.lam i;rw[hcs]at hob;simp only[ObR]at hob;obtain⟨hk,cur,e',fz,hb,hu,hO,hle,hr⟩:=hob;have hv:=R.fr t;rw[hfr]at hv;simp only[LVR]at hv;obtain⟨hi,cap,cur2,e2,fz2,hv1,hv2,hv3,hv4,hv5⟩:=hv;refine⟨_,R.freezeOb (n:=cur.size) (by rw[hcs];trivial) (λhle'=> ?_) (λb hb=>by simp[bZ]at hb)⟩;rw[hv1];simp only[LVR,VR];have hcl:CL (G.setO (G.β L i) cur.size) w (G.β L i) 0 cs:=CL_of λj c hc=>by
  have hj:j<cur.size:=by have:=(dm.1 hc).1;omega
  exact⟨cur.getD j undef,by rw[gC];exact cell_of_heap hb hj,by rw[fh];omega,cZ hle' c _ (hr j c hc)⟩
 obtain ⟨k1, k2⟩ := GC (isA := dz P e) (sz := sz) len 0 cs (by
  rcases hg1 with h|⟨h1,h2⟩
  ·exact .inl h
  ·exact .inr ⟨eC h1,h2⟩) hg2 hcl
 exact⟨_,len,cap,rfl,(DA len cs).symm,hv2,.inr ⟨G.β L i,0,sz,rfl,k1,k2⟩⟩
def sP: ∀{ts:List (Nat×TypeId)} {s s':S} {μ:Mu} {tm:Array Value} {G:Gh},mK P ts s=some s'->Rel G L s μ tm w->
 ∃G',Rel G' L s' μ tm w/\Ext L (bH G w s μ tm) G w G' w (bH G' w s' μ tm)
 |[],s,s',μ,tm,G,h,R=>by simp only[mK,bJ]at h;subst h;exact⟨G,R,Ext.refl G w λ_ h=>h⟩|t::r,s,s',μ,tm,G,h,R=>by simp only[mK]at h;obtain⟨s1,h1,h2⟩:=bz.1 h;obtain⟨G1,R1,E1⟩:=DJ h1 R;obtain⟨G2,R2,E2⟩:=sP h2 R1;exact⟨G2,R2,E1.trans E2⟩
end
def KOK {α:Type}(L:Nat)(G:Gh)(w:World)(s:S)(μ:Mu)(a:Act)(dst:Option Tmp)(k:LV->S->Mu->Option α)(r:α)(K:Act->World->Prop):Prop:=
 ∀v s' μ' cv w' G',k v s' μ'=some r->Rel G' L (s'.put dst v) μ' (a.put dst cv).tmps w'->
  Ext L (bH G w s μ a.tmps) G w G' w' (bH G' w' (s'.put dst v) μ' (a.put dst cv).tmps)->K (a.put dst cv) w'
def POK {α:Type}(L:Nat)(G:Gh)(w:World)(s:S)(μ:Mu)(a:Act)(p:CV->S->Mu->Option α)(r:α)(Q:Exit->Act->World->Prop):Prop:=
 ∀v s' μ' pv w' G',p v s' μ'=some r->Rel G' L s' μ' a.tmps w'->VR G' w' v pv->
  Ext L (bH G w s μ a.tmps) G w G' w' (bH G' w' s' μ' a.tmps)->Q (.panic [{v:=pv,recovered:=false}]) a w'
section
variable {P:Program}{α:Type}{L:Nat}{G:Gh}{w:World}{s:S}{μ:Mu}{a:Act}{o:Oper}{k:LV->S->Mu->Option α}{p:CV->S->Mu->Option α}{r:α}{K:Act->World->Prop}{Q:Exit->Act->World->Prop}
def ez {cv:Value}{w':World}(h:(execOp a.eval o).run P w= .ok (.value cv) w')(hK:K (a.put o.dst cv) w'):o.wp P a w K Q:=by unfold Oper.wp;rw[h];exact hK
def rR {w':World}(h:(execOp a.eval o).run P w= .ok .skip w')(hK:K (a.put o.dst undef) w'):o.wp P a w K Q:=by unfold Oper.wp;rw[h];exact hK
def Nu {v:Value}{w':World}(h:(execOp a.eval o).run P w= .halt (.panic v) w')(hQ:Q (.panic [{v,recovered:=false}]) a w'):o.wp P a w K Q:=by unfold Oper.wp;rw[h];exact hQ
def fV (R:Rel G L s μ a.tmps w)(hd: ∀d,o.dst=some d->d<a.tmps.size)(hk:KOK L G w s μ a o.dst k r K){ts:List Nat}{v:LV}{cv:Value}
 (h:k v (bw ts s) μ=some r) (hrun:(execOp a.eval o).run P w= .ok (.value cv) w) (hv:LVR G w L s.lam.length v cv)
 (ho: ∀b,bZ v cv b-> ∃t,t∈ts/\bZ (s.fr t) (a.tmps.getD t undef) b):o.wp P a w K Q:=by
 obtain⟨h1,h2⟩:=Vf (dst:=o.dst) R hv ho hd;exact ez hrun (hk v _ μ cv w G h h1 h2)
def eK (R:Rel G L s μ a.tmps w)(hd: ∀d,o.dst=some d->d<a.tmps.size)(hk:KOK L G w s μ a o.dst k r K){ts:List Nat}{c:CV}
 (h:k (.cv c) (bw ts s) μ=some r) (hrun: ∃cv,(execOp a.eval o).run P w= .ok (.value cv) w/\VR G w c cv):o.wp P a w K Q:=by
 obtain⟨cv,h1,h2⟩:=hrun;exact fV R hd hk h h1 (by simpa[LVR]using h2) (λb hb=>by simp[bZ]at hb)
def Wr {x:LV}{v:Value}{n:Int}{t ty:TypeId}(h:Qs P t x=some n)(hv:LVR G w L s.lam.length x v):(Builtin.len_ #[t] ty #[v]).run P w= .ok (.int .i64 n) w:=by
 unfold Qs at h;split at h
 ·rename_i hu;obtain⟨l,h1,h2⟩:=bz.1 h;simp only[bJ]at h2;rw[jM h1]at hv;simp only[LVR,VR]at hv;subst hv;have e: ∀b:ByteArray,(Builtin.len_ #[t] ty #[.string b]).run P w= .ok (goInt (b.size:Nat)) w:=λb=>by simp[Builtin.len_,c8 hu]
  rw[e,<-h2];rfl
 ·rename_i e hu;unfold X9 at h;have key: ∀A m c,v= .slice A m c->(m:Int)=n->(Builtin.len_ #[t] ty #[v]).run P w= .ok (.int .i64 n) w:=by intro A m c e em;subst e;simp[Builtin.len_,c8 hu,goInt,em]
  have key2: ∀xs,VR G w (.sl xs) v->(xs.length:Int)=n->(Builtin.len_ #[t] ty #[v]).run P w= .ok (.int .i64 n) w:=by intro xs hx e;simp only[VR]at hx;grind
  split at h<;>simp only[bJ,reduceCtorEq]at h
  ·simp only[LVR]at hv;exact key2 _ hv h
  ·simp only[LVR,VR]at hv;exact key none 0 0 hv h
  ·simp only[LVR]at hv;exact key2 _ (kZ hv) h
  ·simp only[LVR]at hv;grind
  ·simp only[LVR,VR]at hv;grind
  ·simp only[LVR]at hv;grind
 ·simp at h
def DP {x:LV}{v:Value}(h:jk x=some false)(hv:LVR G w L s.lam.length x v)(x':Operand)(he:a.eval x'=v)(ho:o.op= .nilCheck x'):
 (execOp a.eval o).run P w= .ok (.value v) w:=by
 have: ∀u,(match u with| .pointer none| .nilIface| .nilFunc=>False| .func (.method _) _ _=>False|_=>True)->a.eval x'=u->(execOp a.eval o).run P w= .ok (.value u) w:=by
  intro u hu e;simp only[execOp,ho,e];cases u with
  |pointer A=>cases A<;>first|exact hu.elim|rfl
  |func fn f c=>cases fn<;>first|exact hu.elim|rfl
  |nilIface=>exact hu.elim|nilFunc=>exact hu.elim|_=>rfl
 refine this v ?_ he;unfold jk at h;split at h<;>simp only[bJ,reduceCtorEq,Gg]at h<;>simp only[LVR,VR]at hv
 ·grind
 ·simp_all
 ·grind
 ·grind
 ·simp_all
 ·grind
 all_goals simp_all
def RJ {nl:Nat}{x:LV}{v:Value}(hv:LVR G w L nl x v):LVR G w L nl (vA x) v/\ ∀b,bZ (vA x) v b->bZ x v b:=by
 cases x with
 |tloc i t n=>simp only[LVR,vA]at hv |-;exact⟨⟨hv.1,hv.2.1⟩,λb hb=>by simp[bZ]at hb⟩|cv c=>
  cases c with|tref lev i t n=>simp only[LVR,VR,vA,jf]at hv |-;exact⟨⟨hv.1,hv.2.1⟩,λb hb=>by simp[bZ]at hb⟩|_=>exact⟨hv,λ_ hb=>hb⟩
 |_=>exact⟨hv,λ_ hb=>hb⟩
end
section
variable {P:Program}{ρ:Rho}{α:Type}{L:Nat}{G:Gh}{w:World}{s:S}{μ:Mu}{a:Act}{o:Oper}{h:OpHint}{k:LV->S->Mu->Option α}{p:CV->S->Mu->Option α}{r:α}{K:Act->World->Prop}{Q:Exit->Act->World->Prop}
def fo {x:Sem Value}{v:Value}{w':World}(h:x.run P w= .ok v w'):(do pure (Next.value (<-x)):Sem Next).run P w= .ok (.value v) w':=by simp_all
def eA (R:Rel G L s μ a.tmps w){x:Operand}{c:CV}(e:evA h s.fr x= .cv c):VR G w c (a.eval x):=by have:=(cI R h x).1;rw[e]at this;simpa[LVR]using this
def mc (R:Rel G L s μ a.tmps w){x:Operand}{k:IntKind}{n:Int}(e:evA h s.fr x= .cv (.v (.int k n))):a.eval x= .int k n:=by have:=eA R e;simpa[VR]using this
def l9 (R:Rel G L s μ a.tmps w){x:Option Operand}{d:Int}{β:Type}{k:Int->Option β}{r:β}(hb:fl (evA h s.fr) x d k=some r):
 ∃n,po (x.map a.eval) d n/\k n=some r:=by
 rcases Lu hb with⟨rfl,h1⟩|⟨o,kd,n,rfl,h1,h2⟩
 ·exact⟨d,.inl ⟨rfl,rfl⟩,h1⟩
 ·exact⟨n,.inr ⟨kd,by simp[mc R h1]⟩,h2⟩
def SM {x:Operand}(ho:o.op= .move x\/o.op= .assign x)(R:Rel G L s μ a.tmps w)(hd: ∀d,o.dst=some d->d<a.tmps.size)(hk:KOK L G w s μ a o.dst k r K)
 (hop:k (evA h s.fr x) (bw h.take s) μ=some r):o.wp P a w K Q:=
 fV R hd hk hop (by rcases ho with ho|ho<;>simp[execOp,ho]) (cI R h x).1 (cI R h x).2
def aad {c x y:Operand}(ho:o.op= .pick c x y)(R:Rel G L s μ a.tmps w)(hd: ∀d,o.dst=some d->d<a.tmps.size)(hk:KOK L G w s μ a o.dst k r K)
 (hop:opt (ce (evA h s.fr c)) (λt=>k (En t (evA h s.fr x) (evA h s.fr y)) (bw h.take s) μ)=some r):o.wp P a w K Q:=by
 obtain⟨t,h1,h2⟩:=bz.1 hop;have hc:=eA R (iT h1);simp only[VR]at hc;obtain⟨hv,hw⟩:=UP (t:=t) (cI R h x).1 (cI R h y).1;refine fV R hd hk h2 (cv:=if t=true then a.eval x else a.eval y) (by simp[execOp,ho,hc,asBool]) hv λb hb=> ?_;rcases hw b hb with hb|hb
 ·exact(cI R h x).2 b hb
 ·exact(cI R h y).2 b hb
def YD {t:TypeId}{parts:Array (Nat×Operand)}(ho:o.op= .build t parts)(R:Rel G L s μ a.tmps w)(hd: ∀d,o.dst=some d->d<a.tmps.size)(hk:KOK L G w s μ a o.dst k r K)
 (hop:Dw P t (evA h s.fr) parts.toList (λc=>k (.cv c) (bw h.take s) μ)=some r):o.wp P a w K Q:=by
 rw[tQ]at hop;obtain⟨c,h2,h4⟩:=bz.1 hop;obtain⟨ps,h1,h3⟩:=PU h2;refine eK R hd hk h4 ?_;have hp:=uw R h h1;unfold Dv at h3;obtain⟨z,hz,h3⟩:=bz.1 h3;obtain⟨zv,i,_,_,hzr,hzl⟩:=lE (G:=G) (w:=w) hz;have hparts:(parts.map λq=>(q.1,a.eval q.2)).toList=parts.toList.map λq=>(q.1,a.eval q.2):=bG;split at h3
 ·rename_i fs hu;obtain⟨pl,hpl,h3⟩:=bz.1 h3;obtain⟨cs,hf,h3⟩:=bz.1 h3;simp only[bJ]at h3;subst h3;obtain⟨b,hb,hr,_⟩:=wN hp hzl hf;have hmap: ∀(l:List Field) (pl:List (Nat×Nat)),j8 P l=some pl->(l.mapM λf=>(do pure (f.offset,<-sizeOf f.type):Sem (Nat×Nat))).run P w= .ok pl w:=by
   intro l
   induction l with
   |nil=>intro pl h;simp only[j8,bJ]at h;subst h;simp|cons f l ih=>intro pl h;simp only[j8]at h;obtain⟨n,hn,h⟩:=bz.1 h;obtain⟨q,hq,h⟩:=bz.1 h;simp only[bJ]at h;subst h;simp only[List.mapM_cons,dc,fB hn,df,eW,ih q hq]
  have hm:=hmap fs.toList pl hpl;have hm2:(fs.mapM λf=>(do pure (f.offset,<-sizeOf f.type):Sem (Nat×Nat))).run P w= .ok pl.toArray w:=by rw[Array.mapM_eq_mapM_toList,Sem.run_map,hm];rfl
  refine⟨.agg b,?_,by simp only[VR];exact⟨b,rfl,hr⟩⟩;simp only[execOp,ho];refine fo ?_;have hpe:(λ(x:Nat)=>(pl.toArray)[x]?)=λ(i:Nat)=>pl[i]? :=by funext i;simp
  simp only[Instr.build,dc,hzr,df,c8 hu,hm2,hparts,hpe,hb,eW]
 ·rename_i n e hu;obtain⟨sz,hsz,h3⟩:=bz.1 h3;obtain⟨cs,hf,h3⟩:=bz.1 h3;simp only[bJ]at h3;subst h3;obtain⟨b,hb,hr,_⟩:=wN hp hzl hf;refine⟨.agg b,?_,by simp only[VR];exact⟨b,rfl,hr⟩⟩;simp only[execOp,ho];refine fo ?_;simp only[Instr.build,dc,hzr,df,c8 hu,fB hsz,hparts,hb,eW]
 ·simp at h3
def PW {x:Operand}(ho:o.op= .nilCheck x)(R:Rel G L s μ a.tmps w)(hd: ∀d,o.dst=some d->d<a.tmps.size)(hk:KOK L G w s μ a o.dst k r K)
 (hop:opt (jk (evA h s.fr x)) (λb=>bB (!b) (k (vA (evA h s.fr x)) (bw h.take s) μ))=some r):o.wp P a w K Q:=by
 obtain⟨b,h1,h2⟩:=bz.1 hop;obtain⟨h3,h4⟩:=bM.1 h2;have hb:b=false:=by simpa using h3
 subst hb;obtain⟨h5,h6⟩:=RJ (cI R h x).1;exact fV R hd hk h4 (DP h1 (cI R h x).1 x rfl ho) h5 λb hb=>(cI R h x).2 b (h6 b hb)
def YC {op:BinOp}{t ty:TypeId}{x y:Operand}(ho:o.op= .binOp op t x y ty)(R:Rel G L s μ a.tmps w)(hd: ∀d,o.dst=some d->d<a.tmps.size)(hk:KOK L G w s μ a o.dst k r K)
 (hop:(um P op t x y (evA h s.fr x) (evA h s.fr y) λc=>k (.cv c) (bw h.take s) μ)=some r):o.wp P a w K Q:=by
 obtain⟨c,h1,h2⟩:=SF (λ_ e=>by subst e;rfl) (λ_ e=>by subst e;rfl) hop;refine eK R hd hk h2 ?_;obtain⟨cv,h3,h4⟩:=VM h1 (cI R h x).1 (cI R h y).1 (λcc e=>by subst e;rfl) (λcc e=>by subst e;rfl);refine⟨cv,?_,by subst h4;simp[VR]⟩;simp only[execOp,ho];exact fo h3
def aae {op:UnOp}{t:TypeId}{x:Operand}(ho:o.op= .unOp op t x)(R:Rel G L s μ a.tmps w)(hd: ∀d,o.dst=some d->d<a.tmps.size)(hk:KOK L G w s μ a o.dst k r K)
 (hop:opt (unA op (evA h s.fr x)) (λc=>k (.cv c) (bw h.take s) μ)=some r):o.wp P a w K Q:=by
 obtain⟨c,h1,h2⟩:=bz.1 hop;refine eK R hd hk h2 ?_;obtain⟨cv,h3,h4⟩:=ZT (P:=P) h1 (cI R h x).1;refine⟨cv,?_,by subst h4;simp[VR]⟩;simp only[execOp,ho];exact fo h3
def Dy {t:TypeId}{x:Operand}{d:TypeDesc}(ho:o.op= .makeInterface t x)(hu:P.underlying t=some d)(hni: ∀ms,d≠ .interface ms)(R:Rel G L s μ a.tmps w)(hd: ∀d,o.dst=some d->d<a.tmps.size)(hk:KOK L G w s μ a o.dst k r K)
 (hop:opt (cx (evA h s.fr x)) (λc=>k (.cv (.iface t c)) (bw h.take s) μ)=some r):o.wp P a w K Q:=by
 obtain⟨c,h1,h2⟩:=bz.1 hop;refine eK R hd hk h2 ⟨.iface t (a.eval x),?_,by simp only[VR];exact⟨_,rfl,it h1 (cI R h x).1⟩⟩;simp only[execOp,ho];refine fo ?_;simp only[Instr.makeInterface,dc,c8 hu,df];rfl
def PV {f:FuncId}{first captured:Array Operand}(ho:o.op= .makeFunc (.func f) first captured)(hf:first.toList=[])(R:Rel G L s μ a.tmps w)(hd: ∀d,o.dst=some d->d<a.tmps.size)(hk:KOK L G w s μ a o.dst k r K)
 (hop:k (.lclo f (captured.toList.map λx=>strip1 (evA h s.fr x))) (bw h.take s) μ=some r):o.wp P a w K Q:=by
 have hf':first= #[]:=by cases first;simp_all
 subst hf';refine fV R hd hk hop (cv:= .func (.func f) #[] (captured.map a.eval)) ?_ ?_ (λb hb=>by simp[bZ]at hb)
 ·simp only[execOp,ho];exact fo (by simp[Instr.makeFunc])
 ·simp only[LVR];refine⟨_,rfl,?_⟩;rw[Array.toList_map];generalize captured.toList=l
  induction l with|nil=>simp[dV]|cons x l ih=>simp only[dQ,dV];exact⟨_,_,rfl,(mA (cI R h x).1).2,(mA (cI R h x).1).1,ih⟩
def SK {x:Operand}{i:Nat}(ho:o.op= .extract x i)(R:Rel G L s μ a.tmps w)(hd: ∀d,o.dst=some d->d<a.tmps.size)(hk:KOK L G w s μ a o.dst k r K)
 (hop:opt (b9 (evA h s.fr x)) (λxs=>opt (xs[i]?) λv=>k v (bw h.take s) μ)=some r):o.wp P a w K Q:=by
 obtain⟨xs,h1,h2⟩:=bz.1 hop;obtain⟨v,h3,h4⟩:=bz.1 h2;have hv:=(cI R h x).1;rw[GL h1]at hv;simp only[LVR]at hv;obtain⟨vs,e,hl⟩:=hv;obtain⟨cv,h5,h6,h7⟩:=(vV hl).2 i v h3;refine fV R hd hk h4 (cv:=cv) ?_ h6 (λb hb=>absurd hb (sw h7));simp only[execOp,ho,e];refine fo ?_;have h5':vs[i]? =some cv:=by simpa using h5
 simp[Instr.extract,h5']
def YG {x:Operand}{t:TypeId}{c:CV}(ho:o.op= .panic x)(R:Rel G L s μ a.tmps w)(hp:POK L G w s μ a p r Q)(he:evA h s.fr x= .cv (.iface t c))
 (hop:p (.iface t c) (bw h.take s) μ=some r):o.wp P a w K Q:=by
 obtain⟨R',hh⟩:=Rel.strips h.take R;have hl:=ci h.take s;have hv:=eA R he;have hv':=hv;simp only[VR]at hv';obtain⟨u,e,_⟩:=hv';refine Nu (v:=a.eval x) (w':=w) ?_ (hp _ _ μ _ w G hop R' hv (Ext.refl G w λb hb=> ?_))
 ·rw[e];simp only[execOp,ho,e];rfl
 ·rcases hb with⟨l,hb⟩|hb
  ·exact .inl ⟨l,(hh l b (by rw[<-hl.1];exact hb)).2⟩
  ·exact .inr (by rw[<-hl.1];exact hb)
end
def su (G:Gh)(w:World)(lev:Nat):Le (G.below lev) w G w:=by refine⟨λ_ _ _ h hb=>⟨h,hb⟩,λl i h=> ?_,λ_ _ _ h hc=>⟨h,hc⟩,λb cur e fz h=>⟨cur,fz,h,rfl⟩⟩;simp only[Gh.below]at h |-;grind
mutual
def tw {G:Gh}{w:World}{lev L nl:Nat}: ∀(x:LV) (v:Value),LVR (G.below lev) w lev 0 x v->LVR G w L nl x v
 | .cv c,v,h=>by simp only[LVR]at h |-; exact cZ (su G w lev) c v h| .osl xs,v,h=>by simp only[LVR]at h |-; exact oy (su G w lev) (λ_ _ _ _=>⟨rfl,rfl⟩) h| .ost xs,v,h=>by simp only[LVR]at h |-; exact h| .stl n,v,h=>by simpa[LVR]using h| .loc i off,v,h=>by simp only[LVR]at h;omega| .lsl i off len,v,h=>by simp only[LVR]at h;omega| .mloc i,v,h=>by simp only[LVR]at h;omega| .tloc i t n,v,h=>by simp only[LVR]at h;omega| .lclo f caps,v,h=>by simp only[LVR]at h |-;obtain⟨vs,e,hl⟩:=h;exact⟨vs,e,vW caps _ hl⟩
 | .ltup xs,v,h=>by simp only[LVR]at h |-;obtain⟨vs,e,hl⟩:=h;exact⟨vs,e,vW xs _ hl⟩
def vW {G:Gh}{w:World}{lev L nl:Nat}: ∀(xs:List LV) (vs:List Value),dV (G.below lev) w lev 0 xs vs->dV G w L nl xs vs
 |[],vs,h=>by simpa[dV]using h|x::xs,vs,h=>by simp only[dV]at h |-;obtain⟨v,r,e,h0,h1,h2⟩:=h;exact⟨v,r,e,h0,tw x v h1,vW xs r h2⟩
end
section
variable {P:Program}{ρ:Rho}{α:Type}{L:Nat}{G:Gh}{w:World}{s:S}{μ:Mu}{a:Act}{o:Oper}{h:OpHint}{k:LV->S->Mu->Option α}{p:CV->S->Mu->Option α}{r:α}{K:Act->World->Prop}{Q:Exit->Act->World->Prop}
def Qk {cs:List LV}{l:List CV}{nl:Nat}{vs:List Value}(hl:nD cs=some l)(hlen:vs.length=cs.length)(hr: ∀j x,cs[j]? =some x->LVR G w L nl x (vs.getD j undef)):VRL G w l vs:=by obtain⟨e,hg⟩:=z8 hl;refine iP bu λj c v hc hv=> ?_;obtain⟨x,hx,hgc⟩:=hg j c hc;have:=hr j x hx;rw[fp,hv]at this;exact it hgc this
def sV {t:TypeId}{ob:Ob}{off nl b sz:Nat}{v:LV}(hob:ObR G w L nl b sz ob)(h:pQ P t ob off=some v)(hd: ∃d,P.underlying t=some d):
 ∃cv,(Instr.loadAt t (.pointer (some ⟨b,off,none⟩))).run P w= .ok cv w/\LVR G w L nl v cv/\ ∀b',¬bZ v cv b':=by
 unfold pQ at h;cases ob with
 |dead=>simp at h|map ks vs=>simp at h|cells cs=>
  simp only[ObR]at hob h;obtain⟨cur,e,fz,hb,hu,hO,hsz,hr⟩:=hob;have hcell: ∀(n:Nat) (hn:off+n<=cur.size) (j:Nat) v,((List.range n).map λj=>cur.getD (off+j) undef)[j]? =some v->w.cell? ⟨b,off+j,none⟩=some v:=by
   intro n hn j v hv;simp only[fP,pi]at hv;obtain⟨q,hq,rfl⟩:=hv;have hj:j<n:=by have:=(dm.1 hq).1;simpa using this
   have:q=j:=by rw[tn hj]at hq;exact(gY hq).symm
   subst this;exact cell_of_heap hb bu
  split at h
  ·rename_i ha;obtain⟨n,hn,h⟩:=bz.1 h;split at h<;>try(simp at h;done)
   rename_i hle;have hle:=fO hle;obtain⟨l,hl,h⟩:=bz.1 h;simp only[bJ]at h;subst h;refine⟨_,(mj (hcell n bu) hd).1 ha n hn bG,?_,λb' hb'=>by simp[bZ]at hb'⟩;simp only[LVR,VR];refine⟨_,rfl,Qk (L:=L) (nl:=nl) hl (by simp only[pj,List.length_range,nu,gZ];omega) λj x hx=> ?_⟩;have hjn:j<n:=by have:=(dm.1 hx).1;simp only[nu]at this;omega
   rw[AS hjn,tr]at hx;have:=hr (off+j) x hx;rw[fp];simpa[fP,tn hjn]using this
  ·rename_i ha;split at h<;>simp only[bJ,reduceCtorEq]at h;rename_i x hx;subst h;have hj:off<cs.length:=(dm.1 hx).1;refine⟨cur.getD off undef,(mj (vs:=[cur.getD off undef]) (λj u hu=> ?_) hd).2 (by simpa using ha) _ rfl,nS (hr off x hx),λb'=>mB⟩;cases j with|zero=>simp only[eu,bJ]at hu;subst hu;exact cell_of_heap hb bu|succ j=>simp at hu
 |arr k cs=>
  simp only[ObR]at hob h;obtain⟨hk,cur,e,fz,hb,hu,hO,hsz,hr⟩:=hob;obtain⟨c,hc,h⟩:=bz.1 h;simp only[bJ]at h;subst h;have hO':Le G w (G.setO b cur.size) w->CL (G.setO b cur.size) w b 0 cs:=λhle=>CL_of λj c hc=>by
   have hj:j<cur.size:=by have:=(dm.1 hc).1;omega
   exact⟨cur.getD j undef,by rw[gC];exact cell_of_heap hb hj,by rw[fh];omega,cZ hle c _ (hr j c hc)⟩
  unfold jq at hc;split at hc
  ·rename_i ha;obtain⟨n,hn,hc⟩:=bz.1 hc;split at hc<;>simp only[bJ,reduceCtorEq]at hc;rename_i hle;have hle:=fO hle;subst hc;have hcell: ∀(j:Nat) v,((List.range n).map λj=>cur.getD (off+j) undef)[j]? =some v->w.cell? ⟨b,off+j,none⟩=some v:=by
    intro j v hv;simp only[fP,pi]at hv;obtain⟨q,hq,rfl⟩:=hv;have hj:j<n:=by have:=(dm.1 hq).1;simpa using this
    have:q=j:=by rw[tn hj]at hq;exact(gY hq).symm
    subst this;exact cell_of_heap hb bu
   refine⟨_,(mj hcell hd).1 ha n hn bG,?_,λb' hb'=>by simp[bZ]at hb'⟩;simp only[LVR,VR];refine⟨_,rfl,iP (by simp only[pj,List.length_range,nu,gZ];omega) λj c v hc hv=> ?_⟩;have hjn:j<n:=by have:=(dm.1 hc).1;simp only[nu]at this;omega
   rw[AS hjn,tr]at hc;have:=hr (off+j) c hc;have hv':v=cur.getD (off+j) undef:=by simp only[fP,tn hjn,d8,bJ]at hv;exact hv.symm
   rw[hv'];exact this
  ·rename_i ha;have hj:off<cs.length:=(dm.1 hc).1;refine⟨cur.getD off undef,(mj (vs:=[cur.getD off undef]) (λj u hu=> ?_) hd).2 (by simpa using ha) _ rfl,by simp only[LVR];exact hr off c hc,λb' hb'=>by simp[bZ]at hb'⟩;cases j with|zero=>simp only[eu,bJ]at hu;subst hu;exact cell_of_heap hb bu|succ j=>simp at hu
def jH {t:TypeId}{cs:List CV}{off:Nat}{c:CV}(h:il P t cs off=some c):jq P t cs off=some c/\ ∃d,P.underlying t=some d:=by unfold il at h;obtain⟨d,h1,h2⟩:=bz.1 h;simp_all
def YE {t:TypeId}{x:Operand}{f:Nat}(ho:o.op= .field t x f)(R:Rel G L s μ a.tmps w)(hd: ∀d,o.dst=some d->d<a.tmps.size)(hk:KOK L G w s μ a o.dst k r K)
 (hop:opt (Jl P t (evA h s.fr x) f) (λv=>k v (bw h.take s) μ)=some r):o.wp P a w K Q:=by
 obtain⟨v,h1,h2⟩:=bz.1 hop;unfold Jl at h1;obtain⟨q,hq,h1⟩:=bz.1 h1;obtain⟨cs,hc,h1⟩:=bz.1 h1;obtain⟨c,ht,h1⟩:=bz.1 h1;simp only[bJ]at h1;subst h1;have hv:=eA R (n9 hc);simp only[VR]at hv;obtain⟨vs,e,hl⟩:=hv;obtain⟨u,h3,h4⟩:=Tq hq (jH ht).1 (jH ht).2 hl;refine eK R hd hk h2 ⟨u,?_,h4⟩;simp only[execOp,ho,e];exact fo h3
def PZ {cs cs':List CV}{b off n:Nat}(h:CL G w b off cs)(hf:m7 cs cs')(hn:n<=cs'.length):VR G w (.view (cs'.drop n)) (.pointer (some ⟨b,off+n,none⟩)):=by simp only[VR];exact⟨b,off+n,rfl,uB n (hf.CL h)⟩
def Lv {t:TypeId}{x:Operand}{f:Nat}(ho:o.op= .fieldAddr t x f)(R:Rel G L s μ a.tmps w)(hd: ∀d,o.dst=some d->d<a.tmps.size)(hk:KOK L G w s μ a o.dst k r K)
 (hop:iS P h t (evA h s.fr x) f (λv=>k v (bw h.take s) μ)=some r):o.wp P a w K Q:=by
 unfold iS at hop;obtain⟨q,hq,hop⟩:=bz.1 hop;have hrun: ∀b off,a.eval x= .pointer (some ⟨b,off,none⟩)->(execOp a.eval o).run P w= .ok (.value (.pointer (some ⟨b,off+q.1,none⟩))) w:=by intro b off e;simp only[execOp,ho,e];exact fo (LI hq b off)
 split at hop
 ·rename_i i off he;have hv:=(cI R h x).1;rw[he]at hv;simp only[LVR]at hv;exact fV R hd hk hop (hrun _ _ hv.2) (by simp only[LVR];exact⟨hv.1,trivial⟩) (λb hb=>by simp[bZ]at hb)
 ·rename_i c he;split at hop
  ·obtain⟨cs,hc,hop⟩:=bz.1 hop;obtain⟨cs',h1,hf⟩:=oH hop;obtain⟨hle,h2⟩:=bM.1 h1;have hv:=eA R (wT hc);simp only[VR]at hv;obtain⟨b,off,e,hl⟩:=hv;exact eK R hd hk h2 ⟨_,hrun b off e,PZ hl hf (fO hle)⟩
  ·obtain⟨q',hc,hop⟩:=bz.1 hop;have hv:=eA R (tS hc);simp only[VR]at hv;exact eK R hd hk hop ⟨_,hrun _ _ hv.2,by simp only[VR];exact⟨hv.1,trivial⟩⟩
 ·simp at hop
def od {l:Lam}{i:Nat}{o:Ob}:cq (μ++[l]) μ.length i o=μ++[l.set i o]:=by simp[cq]
def kV {l:Lam}{lev i:Nat}{o:Ob}(h:lev<μ.length):cq (μ++[l]) lev i o=cq μ lev i o++[l]:=by unfold cq;grind
def BK {t:TypeId}{ob:Ob}{off:Nat}{q:LV×Ob}(h:gh P t ob off=some q):dz P t=false/\(∃d,P.underlying t=some d)/\ ∃cs,ob= .cells cs/\cs[off]? =some q.1/\q.2= .cells (cs.set off (strip q.1)):=by unfold gh at h;obtain⟨d,hd,h⟩:=bz.1 h;grind
def JF {t:TypeId}{b off:Nat}{cur:Array Value}{e:TypeId}{fz:Nat×Nat}(hb:w.heap[b]? =some (.cells cur e fz))(hoff:off<cur.size)(ha:dz P t=false)(hd: ∃d,P.underlying t=some d):
 (Instr.loadAt t (.pointer (some ⟨b,off,none⟩))).run P w= .ok (cur.getD off undef) w:=by
 refine(mj (vs:=[cur.getD off undef]) (λj u hu=> ?_) hd).2 ha _ rfl;cases j with|zero=>simp only[eu,bJ]at hu;subst hu;exact cell_of_heap hb hoff|succ j=>simp at hu
def fa (R:Rel G L s μ a.tmps w)(ts:List Nat):Rel G L (bw ts s) μ a.tmps w/\Ext L (bH G w s μ a.tmps) G w G w (bH G w (bw ts s) μ a.tmps)/\
 (∀l b,bF G w (bw ts s).fr a.tmps (μ++[(bw ts s).lam]) l b->(∀t,t∈ts->l≠ .fr t)/\bF G w s.fr a.tmps (μ++[s.lam]) l b):=by
 obtain⟨R',h⟩:=Rel.strips ts R;have hl:=ci ts s;refine⟨R',Ext.refl G w λb hb=> ?_,λl b hb=>h l b (by rw[<-hl.1];exact hb)⟩;rcases hb with⟨l,hb⟩|hb
 ·exact .inl ⟨l,(h l b (by rw[<-hl.1];exact hb)).2⟩
 ·exact .inr (by rw[<-hl.1];exact hb)
def aac {t:TypeId}{x:Operand}(ho:o.op= .load t x)(R:Rel G L s μ a.tmps w)(hd: ∀d,o.dst=some d->d<a.tmps.size)(hk:KOK L G w s μ a o.dst k r K)
 (hop:jA P h t (evA h s.fr x) (bw h.take s) μ k=some r):o.wp P a w K Q:=by
 have hl:=ci h.take s;obtain⟨R1,E1,_⟩:=fa R h.take;unfold jA at hop;split at hop
 ·rename_i i off he;have hv:=(cI R h x).1;rw[he]at hv;simp only[LVR]at hv;split at hop<;>try(simp at hop;done)
  split at hop
  ·obtain⟨v,h1,h2⟩:=bz.1 hop;unfold cD at h1;obtain⟨d,h3,h1⟩:=bz.1 h1;rw[hl.1]at h1;obtain⟨cv,h4,h5,h6⟩:=sV (R.lam i) h1 ⟨d,h3⟩;obtain⟨y,h7,h8⟩:=xP h2;obtain⟨h9,h10⟩:=h8 G w L s.lam.length cv h5;refine fV R hd hk h7 (cv:=cv) ?_ h9 (λb hb=>absurd (h10 b hb) (h6 b));simp only[execOp,ho,hv.2];exact fo h4
  ·obtain⟨q,h1,h2⟩:=bz.1 hop;obtain⟨ha,hu,cs,hob,hx,hq⟩:=BK h1;have hob':bP (μ++[(bw h.take s).lam]) L i= .cells cs:=by rw[<-R.lev];exact cV.trans hob
   obtain⟨cur,e,fz,hb,hoff,R2,hT,hval,hown⟩:=R1.takeOb (s1:={bw h.take s with lam:=(bw h.take s).lam.set i q.2}) (μ1:=μ) hob' hx rfl rfl bG rfl (by rw[hq,<-R.lev];exact od.symm);have hval':LVR G w L (bw h.take s).lam.length q.1 (cur.getD off undef):=by
    rcases hval with⟨_,hval⟩|⟨h0,_⟩
    ·exact hval
    ·omega
   obtain⟨R3,E3⟩:=ex (dst:=o.dst) (v:=q.1) (cv:=cur.getD off undef) R2 (E1.weaken (λ_ h=>h) (λb hb=>hT b hb)) (by simpa using hval') (λb hb=>⟨(hown b hb).1,(hown b hb).2.1,(E1.grow b (hown b hb).2.2)⟩) hd;refine ez ?_ (hk _ _ μ _ w G h2 R3 E3);simp only[execOp,ho,hv.2];exact fo (JF hb hoff ha hu)
 ·split at hop
  ·obtain⟨cs,hc,hop⟩:=bz.1 hop;obtain⟨c,ht,hop⟩:=bz.1 hop;have hv:=eA R (wT hc);simp only[VR]at hv;obtain⟨b,off,e,hcl⟩:=hv;obtain⟨u,h1,h2⟩:=La (jH ht).1 (jH ht).2 hcl;refine eK R hd hk hop ⟨u,?_,h2⟩;simp only[execOp,ho,e];exact fo h1
  ·obtain⟨q,hc,hop⟩:=bz.1 hop;have hv:=eA R (tS hc);simp only[VR]at hv;split at hop
   ·obtain⟨v,h1,hop⟩:=bz.1 hop;unfold cD at h1;obtain⟨d,h3,h1⟩:=bz.1 h1;have hq:q.1<L:=by
     rw[<-R.lev];by_cases hq:q.1<μ.length
     ·exact hq
     ·simp only[b7]at h1;rw[fq bu]at h1;simp[pQ]at h1
    obtain⟨cv,h4,h5,h6⟩:=sV (R.mu q.1 q.2.1 hq) h1 ⟨d,h3⟩;obtain⟨y,h7,h8⟩:=jr hop;obtain⟨h9,h10⟩:=h8 G w L s.lam.length cv (tw v cv h5);refine fV R hd hk h7 (cv:=cv) ?_ h9 (λb hb=>absurd (h10 b hb) (h6 b));simp only[execOp,ho,hv.2];exact fo h4
   ·obtain⟨q',h1,hop⟩:=bz.1 hop;obtain⟨ha,hu,cs,hob,hx,hq'⟩:=BK h1;have hq:q.1<μ.length:=by
     by_cases hq:q.1<μ.length
     ·exact hq
     ·simp only[b7]at hob;rw[fq bu]at hob;cases hob
    have hob':bP (μ++[(bw h.take s).lam]) q.1 q.2.1= .cells cs:=(cS hq).trans hob;obtain⟨cur,e,fz,hb,hoff,R2,hT,hval,hown⟩:=R1.takeOb (s1:=bw h.take s) (μ1:=cq μ q.1 q.2.1 q'.2) hob' hx rfl rfl rfl kU.1 (by rw[hq'];exact(kV hq).symm);have hval':LVR G w L (bw h.take s).lam.length q'.1 (cur.getD q.2.2 undef):=by
     rcases hval with⟨h0,_⟩|⟨_,hval⟩
     ·rw[R.lev]at hq;omega
     ·exact tw _ _ hval
    obtain⟨y,h7,h8⟩:=jr hop;obtain⟨h9,h10⟩:=h8 G w L _ _ hval';obtain⟨R3,E3⟩:=ex (dst:=o.dst) (v:=y) (cv:=cur.getD q.2.2 undef) R2 (E1.weaken (λ_ h=>h) (λb hb=>hT b hb)) h9 (λb hb=>⟨(hown b (h10 b hb)).1,(hown b (h10 b hb)).2.1,(E1.grow b (hown b (h10 b hb)).2.2)⟩) hd;refine ez ?_ (hk _ _ _ _ w G h7 R3 E3);simp only[execOp,ho,hv.2];exact fo (JF hb hoff ha hu)
 ·simp at hop
def U6 {xs:List CV}{i:Int}{c:CV}(h:dr xs i=some c):0<=i/\xs[i.toNat]? =some c:=by unfold dr at h;grind
def ky {i:Int}{n:Nat}(h:fc i n=true):0<=i/\i<(n:Int):=by simpa[fc]using h
def kn {c:CV}(h: ∀cs,c≠ .agg cs):c.cells=[c]:=by cases c<;>first|rfl|exact absurd rfl (h _)
def VU {β:Type}{d:TypeDesc}{c:CV}{k:CV->Option β}{r:β}(h:kf d (.cv c) k=some r):
 ∃c':CV,k c'=some r/\(c'=c\/((∀cs,c≠ .agg cs)/\ ∀cs,c'≠ .agg cs))/\ ∀(G:Gh) (w:World) (v:Value),VR G w c v->VR G w c' v:=by
 obtain⟨c0,h0,hr⟩:=uq h;unfold kf at h;split at h<;>obtain⟨q,h1,h2⟩:=bz.1 h
 ·have:=me h1;grind
 ·have:=iT h1;grind
 ·have:=jM h1;grind
 ·refine⟨_,h2,.inr ⟨λcs e=> ?_,bG⟩,λG w v hv=>i7 (L:=0) (nl:=0) h1 (by simpa[LVR]using hv)⟩;subst e;simp[cR]at h1
 ·simp only[cx,bJ]at h1;grind
def Lw {t:TypeId}{x ix:Operand}(ho:o.op= .indexAddr t x ix)(R:Rel G L s μ a.tmps w)(hd: ∀d,o.dst=some d->d<a.tmps.size)(hk:KOK L G w s μ a o.dst k r K)
 (hop:opt (oD (evA h s.fr ix)) (λi=>iU P h t (evA h s.fr x) i λv=>k v (bw h.take s) μ)=some r):o.wp P a w K Q:=by
 obtain⟨i,h1,hop⟩:=bz.1 hop;obtain⟨kd,e1⟩:=qB h1;have hi:=mc R e1;have hrunS: ∀e n b off len cap,P.underlying t=some (.slice e)->d4 P e=some n->a.eval x= .slice (some ⟨b,off,none⟩) len cap->0<=i->i<(len:Int)->
  (execOp a.eval o).run P w= .ok (.value (.pointer (some ⟨b,off+i.toNat*n,none⟩))) w:=by
  intro e n b off len cap hu hn ea h0 hlt;simp only[execOp,ho,ea,hi];refine fo ?_;simp[Instr.indexAt,asIntOf,c8 hu,h0,hlt,fB hn,gE]
 have hrunA: ∀e n b off len,P.underlying t=some (.array len e)->d4 P e=some n->a.eval x= .pointer (some ⟨b,off,none⟩)->0<=i->i<(len:Int)->
  (execOp a.eval o).run P w= .ok (.value (.pointer (some ⟨b,off+i.toNat*n,none⟩))) w:=by
  intro e n b off len hu hn ea h0 hlt;simp only[execOp,ho,ea,hi];refine fo ?_;simp[Instr.indexAt,Instr.sureAddr,asIntOf,c8 hu,h0,hlt,fB hn,gE]
 have hsl: ∀xs e n,P.underlying t=some (.slice e)->d4 P e=some n->VR G w (.sl xs) (a.eval x)->
  (opt (dr xs i) λc=>iL P e c λc=>oM (dz P e) n c λv=>k v (bw h.take s) μ)=some r->o.wp P a w K Q:=by
  intro xs e n hu hn hv hop0;obtain⟨c,hc,hop1⟩:=bz.1 hop0;have hop:=Nq hop1 (λc hc=>To hc);clear hop0 hop1;obtain⟨h0,hget⟩:=U6 hc;simp only[VR]at hv;obtain⟨A,len,cap,e2,rfl,hle,hx⟩:=hv;have hlt:i.toNat<xs.length:=(dm.1 hget).1;rcases hx with hx|⟨b,off,sz,rfl,hs,hl⟩
  ·omega
  have hcl:=HH hl i.toNat c hget;have hsc:c.cells.length=sz:=hs c (Gc hget);have key: ∃c':CV,bB (Nat.beq c'.cells.length n) (k (.cv (.view c'.cells)) (bw h.take s) μ)=some r/\c'.cells.length=sz/\CL G w b (off+i.toNat*sz) c'.cells:=by
   unfold iL js at hop;split at hop
   ·split at hop
    ·obtain⟨cs,hag,hop1⟩:=bz.1 hop;have:=n9 hag;injection this with this;subst this;exact⟨_,hop1,hsc,hcl⟩
    ·obtain⟨cs,hag,hop1⟩:=bz.1 hop;obtain⟨cs',hop2,hf⟩:=oH hop1;have:=n9 hag;injection this with this;subst this;exact⟨_,hop2,by simp only[CV.cells]at hsc |-; rw[hf.1];exact hsc,by simp only[CV.cells]at hcl |-; exact hf.CL hcl⟩
   ·split at hop<;>try(simp at hop;done)
    obtain⟨c',hop1,hcase,hr⟩:=VU hop;rcases hcase with rfl|⟨n1,n2⟩
    ·exact⟨c',hop1,hsc,hcl⟩
    ·refine⟨c',hop1,?_,?_⟩
     ·rw[kn n1]at hsc;rw[kn n2];exact hsc
     ·rw[kn n1]at hcl;rw[kn n2];simp only[CL,j6]at hcl |-;obtain⟨v,a1,a2,a3⟩:=hcl;exact⟨v,a1,a2,hr G w v a3⟩
  obtain⟨c',hop1,hlc,hcl'⟩:=key;obtain⟨hlen,hop2⟩:=bM.1 hop1;have hlen:=eC hlen;have hsn:sz=n:=bu;subst hsn;exact eK R hd hk hop2 ⟨_,hrunS e sz b off xs.length cap hu hn e2 h0 bu,by simp only[VR];exact⟨b,_,rfl,hcl'⟩⟩
 unfold iU at hop;split at hop
 ·rename_i e hu;obtain⟨n,hn,hop⟩:=bz.1 hop;split at hop
  ·rename_i id off len he;obtain⟨hr,hop⟩:=bM.1 hop;obtain⟨h0,hlt⟩:=ky hr;have hv:=(cI R h x).1;rw[he]at hv;simp only[LVR]at hv;obtain⟨hid,cap,cur,e',fz,hv,_⟩:=hv;exact fV R hd hk hop (hrunS e n _ _ len cap hu hn hv h0 hlt) (by simp only[LVR];exact⟨hid,trivial⟩) (λb hb=>by simp[bZ]at hb)
  ·rename_i xs he;have hv:=(cI R h x).1;rw[he]at hv;simp only[LVR]at hv;exact hsl xs e n hu hn (kZ hv) hop
  ·split at hop
   ·obtain⟨xs,hg,hop⟩:=bz.1 hop;exact hsl xs e n hu hn (i7 hg (cI R h x).1) hop
   ·obtain⟨q,hg,hop⟩:=bz.1 hop;obtain⟨hr,hop⟩:=bM.1 hop;obtain⟨h0,hlt⟩:=ky hr;have hv:=eA R (Tx hg);simp only[VR]at hv;obtain⟨hid,cap,cur,e',fz,hv,_⟩:=hv;exact eK R hd hk hop ⟨_,hrunS e n _ _ _ cap hu hn hv h0 hlt,by simp only[VR];exact⟨hid,trivial⟩⟩
  ·simp at hop
 ·rename_i len e hu;obtain⟨n,hn,hop⟩:=bz.1 hop;split at hop
  ·rename_i id off he;obtain⟨hr,hop⟩:=bM.1 hop;obtain⟨h0,hlt⟩:=ky hr;have hv:=(cI R h x).1;rw[he]at hv;simp only[LVR]at hv;exact fV R hd hk hop (hrunA e n _ _ len hu hn hv.2 h0 hlt) (by simp only[LVR];exact⟨hv.1,trivial⟩) (λb hb=>by simp[bZ]at hb)
  ·split at hop
   ·obtain⟨cs,hg,hop⟩:=bz.1 hop;obtain⟨hr,hop⟩:=bM.1 hop;obtain⟨hle,hop⟩:=bM.1 hop;obtain⟨h0,hlt⟩:=ky hr;have hv:=eA R (wT hg);simp only[VR]at hv;obtain⟨b,off,e2,hcl⟩:=hv;exact eK R hd hk hop ⟨_,hrunA e n b off len hu hn e2 h0 hlt,by simp only[VR];exact⟨b,_,rfl,uB _ hcl⟩⟩
   ·obtain⟨q,hg,hop⟩:=bz.1 hop;obtain⟨hr,hop⟩:=bM.1 hop;obtain⟨h0,hlt⟩:=ky hr;have hv:=eA R (tS hg);simp only[VR]at hv;exact eK R hd hk hop ⟨_,hrunA e n _ _ len hu hn hv.2 h0 hlt,by simp only[VR];exact⟨hv.1,trivial⟩⟩
  ·simp at hop
 ·simp at hop
end
section
variable {P:Program}{ρ:Rho}{α:Type}{L:Nat}{G:Gh}{w:World}{s:S}{μ:Mu}{a:Act}{o:Oper}{h:OpHint}{k:LV->S->Mu->Option α}{p:CV->S->Mu->Option α}{r:α}{K:Act->World->Prop}{Q:Exit->Act->World->Prop}
def YF {t:TypeId}{x ix:Operand}(ho:o.op= .index t x ix)(R:Rel G L s μ a.tmps w)(hd: ∀d,o.dst=some d->d<a.tmps.size)(hk:KOK L G w s μ a o.dst k r K)
 (hop:opt (oD (evA h s.fr ix)) (λi=>oS P t (evA h s.fr x) i λv=>k v (bw h.take s) μ)=some r):o.wp P a w K Q:=by
 obtain⟨i,h1,hop⟩:=bz.1 hop;obtain⟨kd,e1⟩:=qB h1;have hi:=mc R e1;unfold oS at hop;split at hop
 ·rename_i hu;obtain⟨l,h2,hop⟩:=bz.1 hop;obtain⟨b,h3,hop⟩:=bz.1 hop;have hv:=eA R (jM h2);simp only[VR]at hv;refine eK R hd hk hop ⟨.int .u8 (b.toNat:Int),?_,by simp[VR]⟩;simp only[execOp,ho,hv,hi];exact fo (Vh hu h3)
 ·rename_i len e hu;split at hop<;>try(simp at hop;done)
  obtain⟨cs,h2,hop⟩:=bz.1 hop;obtain⟨n,hn,hop⟩:=bz.1 hop;obtain⟨hr,hop⟩:=bM.1 hop;obtain⟨c,hc,hop⟩:=bz.1 hop;obtain⟨c',hop,hr'⟩:=ta hop;obtain⟨h0,hlt⟩:=ky hr;have hv:=eA R (n9 h2);simp only[VR]at hv;obtain⟨vs,e2,hl⟩:=hv;obtain⟨u,h3,h4⟩:=z6 (P:=P) (jH hc).1 (jH hc).2 hl;refine eK R hd hk hop ⟨u,?_,hr' G w 0 0 u (by simpa[LVR]using h4)⟩;simp only[execOp,ho,e2,hi];refine fo ?_;simp only[Instr.index,asIntOf,dc,eW,df,c8 hu,bK (And.intro h0 hlt),fB hn,h3]
 ·simp at hop
def YH {t:TypeId}{x:Operand}{lo hi:Option Operand}(ho:o.op= .slice t x lo hi none)(R:Rel G L s μ a.tmps w)(hd: ∀d,o.dst=some d->d<a.tmps.size)(hk:KOK L G w s μ a o.dst k r K)
 (hop:lA P t (evA h s.fr x) lo hi (evA h s.fr) (λv=>k v (bw h.take s) μ)=some r):o.wp P a w K Q:=by
 have hrun: ∀{cv:Value},(Instr.sliceAt t (a.eval x) (lo.map a.eval) (hi.map a.eval) none).run P w= .ok cv w->(execOp a.eval o).run P w= .ok (.value cv) w:=by intro cv h;simp only[execOp,ho];exact fo (by simpa using h)
 unfold lA at hop;split at hop
 ·rename_i hu;obtain⟨l,h2,hop⟩:=bz.1 hop;obtain⟨m,hm,hop⟩:=l9 R hop;obtain⟨n,hn,hop⟩:=l9 R hop;obtain⟨q,hq,hop⟩:=bz.1 hop;have hv:=eA R (jM h2);simp only[VR]at hv;refine eK R hd hk hop ⟨.string ⟨⟨q⟩⟩,hrun ?_,by simp[VR]⟩;rw[hv];exact K7 hu hq hm hn
 ·rename_i e hu;obtain⟨sz,hsz,hop⟩:=bz.1 hop;have hsl: ∀xs,VR G w (.sl xs) (a.eval x)->(fl (evA h s.fr) lo 0 λm=>fl (evA h s.fr) hi (xs.length:Int) λn=>bB (vo sz m xs) (opt (ku xs m n) λq=>k (.cv (.sl q)) (bw h.take s) μ))=some r->o.wp P a w K Q:=by intro xs hv hop;obtain⟨m,hm,hop⟩:=l9 R hop;obtain⟨n,hn,hop⟩:=l9 R hop;obtain⟨hg,hop⟩:=bM.1 hop;obtain⟨q,hq,hop⟩:=bz.1 hop;obtain⟨u,h3,h4⟩:=Nl hu hsz hv hq hg hm hn;exact eK R hd hk hop ⟨u,hrun h3,h4⟩
  split at hop
  ·obtain⟨xs,h2,hop⟩:=bz.1 hop;exact hsl xs (i7 h2 (cI R h x).1) hop
  ·rename_i xs he;have hv:=(cI R h x).1;rw[he]at hv;simp only[LVR]at hv;exact hsl xs (kZ hv) hop
  ·rename_i id off len he;obtain⟨m,hm,hop1⟩:=l9 R hop;obtain⟨n,hn,hop2⟩:=l9 R hop1;obtain⟨hg,hop3⟩:=bM.1 hop2;clear hop hop1 hop2;simp only[cM,dn]at hg;obtain⟨⟨hm0,h0⟩,hle⟩:=hg;rw[hm0]at hm;have hv:=(cI R h x).1;rw[he]at hv;simp only[LVR]at hv;obtain⟨hid,cap,cur,e',fz,hv,hlc,hcm,hb,hsize⟩:=hv;have hbs:=lT (P:=P) (w:=w) (isS:=true) hlc (Bf 0) h0 hle hm hn;refine fV R hd hk hop3 (cv:= .slice (some ⟨G.β L id,off,none⟩) n.toNat cap) (hrun ?_) ?_ (λb hb=>by simp[bZ]at hb)
   ·rw[hv];simp only[Instr.sliceAt,dc,c8 hu,df,Instr.slice,hbs,fB hsz,eW];by_cases hc:cap=0
    ·simp[hc]
    ·simp[hc,gE]
   ·simp only[LVR];exact⟨hid,cap,cur,e',fz,rfl,bu,hcm,hb,hsize⟩
  ·rename_i xs he;obtain⟨m,hm,hop1⟩:=l9 R hop;obtain⟨n,hn,hop2⟩:=l9 R hop1;obtain⟨hg,hop3⟩:=bM.1 hop2;clear hop hop1 hop2;simp only[cM,dn]at hg;obtain⟨⟨hm0,h0⟩,hle⟩:=hg;rw[hm0]at hm;obtain⟨hv,how⟩:=cI R h x;rw[he]at hv how;simp only[LVR]at hv;rcases hv with⟨h1,h2⟩|⟨b,cap,cur,e',hv,hb,h1,h2,h3,h4,h5⟩
   ·rw[h1]at hle;simp only[cG]at hle;omega
   have hbs:=lT (P:=P) (w:=w) (isS:=true) h1 (Bf 0) h0 (Int.le_of_lt hle) hm hn;refine fV R hd hk hop3 (cv:= .slice (some ⟨b,0,none⟩) n.toNat cap) (hrun ?_) ?_ (λb' hb'=>how b' (by rw[hv];simpa[bZ]using hb'))
   ·rw[hv];simp only[Instr.sliceAt,dc,c8 hu,df,Instr.slice,hbs,fB hsz,eW];by_cases hc:cap=0
    ·simp[hc]
    ·simp[hc,gE]
   ·simp only[LVR];refine .inr ⟨b,cap,cur,e',by rw[nu,Gb bu],hb,by rw[nu];omega,h2,h3,h4,λj y hy=>h5 j y ?_⟩;rw[Gj]at hy;split at hy
    ·exact hy
    ·cases hy
  ·simp at hop
 ·simp at hop
def abD {x:Operand}{t:TypeId}{c:Call}(ho:o.op= .call c)(hc:c.callee= .builtin .len)(hx:c.args.toList=[x])(ht:c.argTypes.toList=[t])(R:Rel G L s μ a.tmps w)(hd: ∀d,o.dst=some d->d<a.tmps.size)(hk:KOK L G w s μ a o.dst k r K)
 (hop:opt (Qs P t (evA h s.fr x)) (λn=>k (.cv (.v (.int .i64 n))) (bw h.take s) μ)=some r):o.wp P a w K Q:=by
 obtain⟨n,h1,h2⟩:=bz.1 hop;have hx':c.args= #[x]:=by cases ha:c.args;simp_all
 have ht':c.argTypes= #[t]:=by cases ha:c.argTypes;simp_all
 refine eK R hd hk h2 ⟨.int .i64 n,?_,by simp[VR]⟩;have:=Wr (ty:=o.type) h1 (cI R h x).1;simp only[execOp,ho,resolve,hc,hx',ht',dc,eW,df,invoke,builtin,sd,dQ,iC];rw[this];rfl
def aaO (x y:Int):(if y>x then y else x)=max x y:=by omega
def aaP (x y:Int):(if y<x then y else x)=min x y:=by omega
def abE {x y:Operand}{c:Call}(ho:o.op= .call c)(hc:c.callee= .builtin .max)(hx:c.args.toList=[x,y])(R:Rel G L s μ a.tmps w)(hd: ∀d,o.dst=some d->d<a.tmps.size)(hk:KOK L G w s μ a o.dst k r K)
 (hop:opt (bI .i64 (evA h s.fr x)) (λm=>opt (bI .i64 (evA h s.fr y)) λn=>k (.cv (.v (.int .i64 (max m n)))) (bw h.take s) μ)=some r):o.wp P a w K Q:=by
 obtain⟨m,h1,hop⟩:=bz.1 hop;obtain⟨n,h2,hop⟩:=bz.1 hop;have hx':c.args= #[x,y]:=by cases ha:c.args;simp_all
 refine eK R hd hk hop ⟨.int .i64 (max m n),?_,by simp[VR]⟩;simp only[execOp,ho,resolve,hc,hx',dc,eW,df,invoke,builtin,sd,dQ,iC,mc R (me h1),mc R (me h2)];simp only[Builtin.max_,List.foldlM_cons,List.foldlM_nil,Builtin.max2,dc,eW,df,aaO]
def abF {x y:Operand}{c:Call}(ho:o.op= .call c)(hc:c.callee= .builtin .min)(hx:c.args.toList=[x,y])(R:Rel G L s μ a.tmps w)(hd: ∀d,o.dst=some d->d<a.tmps.size)(hk:KOK L G w s μ a o.dst k r K)
 (hop:opt (bI .i64 (evA h s.fr x)) (λm=>opt (bI .i64 (evA h s.fr y)) λn=>k (.cv (.v (.int .i64 (min m n)))) (bw h.take s) μ)=some r):o.wp P a w K Q:=by
 obtain⟨m,h1,hop⟩:=bz.1 hop;obtain⟨n,h2,hop⟩:=bz.1 hop;have hx':c.args= #[x,y]:=by cases ha:c.args;simp_all
 refine eK R hd hk hop ⟨.int .i64 (min m n),?_,by simp[VR]⟩;simp only[execOp,ho,resolve,hc,hx',dc,eW,df,invoke,builtin,sd,dQ,iC,mc R (me h1),mc R (me h2)];simp only[Builtin.min_,List.foldlM_cons,List.foldlM_nil,Builtin.min2,dc,eW,df,aaP]
def pD: ∀{xs:List CV} {l:List UInt8},de xs=some l-> ∃ns:List Int,xs=ns.map (λn=> .v (.int .u8 n))/\l=ns.map λn=>UInt8.ofNat n.toNat
 |[],l,h=>by simp only[de,bJ]at h;subst h;exact⟨[],rfl,rfl⟩|c::r,l,h=>by
  unfold de at h;split at h<;>try(simp at h;done)
  ·simp_all
  ·rename_i n r' e;injection e with e1 e2;subst e1;subst e2;split at h<;>try(simp at h;done)
   obtain⟨l',h1,h2⟩:=bz.1 h;simp only[bJ]at h2;subst h2;obtain⟨ns,h3,h4⟩:=pD h1;exact⟨n::ns,by rw[h3];rfl,by rw[h4];rfl⟩
def Qh (ns:List Int): ∀(acc:List UInt8),ns.foldl (λr n=>r.push (UInt8.ofNat n.toNat)) (⟨⟨acc⟩⟩:ByteArray)=⟨⟨acc++ns.map λn=>UInt8.ofNat n.toNat⟩⟩:=by
 induction ns with|nil=>intro acc;simp|cons n ns ih=>simp_all
def ri {A:Addr}{len cap:Nat}{ns:List Int}(hl:len=ns.length)(hc: ∀(j:Nat) n,ns[j]? =some n->w.cell? (A.add j)=some (.int .u8 n)):
 (Conv.bytesToString (.slice (some A) len cap)).run P w= .ok (.string ⟨⟨ns.map λn=>UInt8.ofNat n.toNat⟩⟩) w:=by
 have h1:(loadCells A len).run P w= .ok (ns.map (Value.int .u8)).toArray w:=by
  have := run_loadCells_list (P := P) w A (ns.map (Value.int .u8)) (λj v hv => by
   simp only[fP,pi]at hv;obtain⟨n,hn,rfl⟩:=hv
   exact hc j n hn)
  rw[hl];simpa using this
 rw[run_bytesToString w A len cap ns h1];have:=Qh ns [];simp only[fb]at this;rw[<-this];rfl
def SJ {src dst:TypeId}{x:Operand}(ho:o.op= .convert src dst x)(R:Rel G L s μ a.tmps w)(hd: ∀d,o.dst=some d->d<a.tmps.size)(hk:KOK L G w s μ a o.dst k r K)
 (hop:fy P h src dst (evA h s.fr x) (bw h.take s) μ k=some r)
 (hsb : ∀ e l, P.underlying dst = some (.slice e) -> P.underlying e = some (.int .u8) -> P.underlying src = some .string -> evA h s.fr x = LV.str l -> small l.length = true ->
  (match h.arr with
   |true=>k (.lsl (bw h.take s).lam.length 0 l.length) {bw h.take s with lam:=(bw h.take s).lam++[.arr 1 (l.map λb=> .v (.int .u8 (b.toNat:Int)))]} μ
   |false=>k (.cv (.sl (l.map λb=> .v (.int .u8 (b.toNat:Int))))) (bw h.take s) μ)=some r->o.wp P a w K Q):o.wp P a w K Q:=by
 have hl:=ci h.take s;have hrun: ∀{cv:Value},(convert src dst (a.eval x)).run P w= .ok cv w->(execOp a.eval o).run P w= .ok (.value cv) w:=by intro cv h;simp only[execOp,ho];exact fo h
 unfold fy at hop;split at hop
 ·rename_i ik hu;split at hop<;>try(simp at hop;done)
  rename_i ik' hu';obtain⟨n,h1,hop⟩:=bz.1 hop;obtain⟨kd,e1⟩:=qB h1;refine eK R hd hk hop ⟨.int ik (ik.wrap n),hrun ?_,by simp[VR]⟩;rw[mc R e1];simp[convert,c8 hu,c8 hu',Conv.intToInt]
 ·rename_i hu;split at hop
  ·rename_i hu';obtain⟨l,h1,hop⟩:=bz.1 hop;have hv:=eA R (jM h1);simp only[VR]at hv;refine eK R hd hk hop ⟨.string ⟨⟨l⟩⟩,hrun ?_,by simp[VR]⟩;rw[hv];simp[convert,c8 hu,c8 hu']
  ·rename_i e hu';split at hop<;>try(simp at hop;done)
   rename_i hue;have hconv: ∀A len cap,a.eval x= .slice A len cap->convert src dst (a.eval x)=convert src dst (.slice A len cap):=λA len cap e=>by rw[e]
   have hcv: ∀A len cap,(convert src dst (.slice A len cap)).run P w=(Conv.bytesToString (.slice A len cap)).run P w:=by intro A len cap;simp[convert,c8 hu,c8 hu',c8 hue]
   split at hop
   ·rename_i id off len he;split at hop<;>try(simp at hop;done)
    rename_i sz cs hob;obtain⟨hle,hop⟩:=bM.1 hop;have hle:=fO hle;obtain⟨l,hb,hop⟩:=bz.1 hop;obtain⟨ns,h1,h2⟩:=pD hb;have hv:=(cI R h x).1;rw[he]at hv;simp only[LVR]at hv;obtain⟨hid,cap,cur,e',fz,hv,hlc,hcm,hbk,hsize⟩:=hv;have hobr:=R.lam id;rw[hl.1]at hob;rw[hob]at hobr;simp only[ObR]at hobr;obtain⟨_,cur2,e2,fz2,hbk2,_,_,hsz,hr⟩:=hobr;have hlen:ns.length=len:=by have:=m6 List.length h1;grind
    refine eK R hd hk hop ⟨.string ⟨⟨l⟩⟩,hrun ?_,by simp[VR]⟩;rw[hv,hcv,h2];refine ri hlen.symm λj n hn=> ?_;have hj:j<len:=by have:=(dm.1 hn).1;omega
    rw[gE,cell_of_heap hbk2 bu];have hx:cs[off+j]? =some (.v (.int .u8 n)):=by
     have e3:((cs.drop off).take len)[j]? =some (.v (.int .u8 n)):=by rw[h1];simp[hn]
     grind
    have:=hr (off+j) _ hx;simp only[VR]at this;rw[this]
   ·obtain⟨xs,hg,hop⟩:=bz.1 hop;obtain⟨l,hb,hop⟩:=bz.1 hop;obtain⟨ns,rfl,rfl⟩:=pD hb;have hv:=i7 hg (cI R h x).1;simp only[VR]at hv;obtain⟨A,len,cap,e1,e2,_,hx⟩:=hv;have hlen:len=ns.length:=by simpa using e2
    refine eK R hd hk hop ⟨.string ⟨⟨ns.map λn=>UInt8.ofNat n.toNat⟩⟩,hrun ?_,by simp[VR]⟩;rw[e1,hcv];cases A with
    |none=>
     have:ns=[]:=by simp_all
     subst this;rfl
    |some A=>
     refine ri hlen λj n hn=> ?_;have hj:j<ns.length:=(dm.1 hn).1;rcases hx with hx|⟨b,off,sz,hA,hs,hel⟩
     ·omega
     ·injection hA with hA;subst hA;have hcl:=HH hel j (.v (.int .u8 n)) (by simp[hn]);have hsz:sz=1:=by have:=hs (.v (.int .u8 n)) (by simp;exact Gc hn);simpa[CV.cells]using this.symm
      subst hsz;simp only[CV.cells,CL,j6]at hcl;obtain⟨v,h3,_,h4⟩:=hcl;simp only[VR]at h4;subst h4;rw[gE];simpa using h3
  ·simp at hop
 ·rename_i e hu;split at hop<;>try(simp at hop;done)
  rename_i hu';split at hop<;>try(simp at hop;done)
  rename_i hue;obtain⟨l,h1,hop⟩:=bz.1 hop;obtain⟨hsm,hop⟩:=bM.1 hop;exact hsb e l hu hue hu' (jM h1) hsm hop
 ·simp at hop
end
def ol (cur:Array Value):g9 cur (0,0):=λj _ h=>by simp at h
section
variable {P:Program}{ρ:Rho}{α:Type}{L:Nat}{G:Gh}{w:World}{s:S}{μ:Mu}{a:Act}{o:Oper}{h:OpHint}{k:LV->S->Mu->Option α}{p:CV->S->Mu->Option α}{r:α}{K:Act->World->Prop}{Q:Exit->Act->World->Prop}
def K3 {G:Gh}{L m b kk:Nat}{pu:Bool}: ∀l,l<L->(∀i,(G.setL L m b kk pu).β l i=G.β l i/\(G.setL L m b kk pu).sz l i=G.sz l i)/\(G.setL L m b kk pu).n l=G.n l:=by intro l hl;have: ¬l=L:=bu;simp[Gh.setL,this]
def lx {G0:Gh}{w0:World}{T0:Nat->Prop}(R:Rel G L s μ a.tmps w)(E:Ext L T0 G0 w0 G w (bH G w s μ a.tmps))(hd: ∀d,o.dst=some d->d<a.tmps.size)
 {cur:Array Value} {e:TypeId} {ob:Ob} {kk:Nat} {fz:Nat×Nat} (hfz:g9 cur fz)
 (hob : (∃ cs, ob = .cells cs /\ cs.length <= cur.size /\ ∀ j x, cs[j]? = some x -> LVR G w L s.lam.length x (cur.getD j undef)) \/
  (∃cs,ob= .arr kk cs/\cs.length<=cur.size/\ ∀j x,cs[j]? =some x->VR G w x (cur.getD j undef)))
 (hown: ∀cs j b,ob= .cells cs->eZ cs cur j b->((∀l,¬bF G w s.fr a.tmps (μ++[s.lam]) l b)/\(∀lev i,b6 (bP (μ++[s.lam]) lev i)->G.β lev i≠b)/\ ∀j',eZ cs cur j' b->j'=j)/\(T0 b\/w0.heap.size<=b))
 {v:LV} {cv:Value} (hv: ∀G1 w1,G1=G.setL L s.lam.length w.heap.size kk s.pushed->w1=w.alloc (.cells cur e fz)->LVR G1 w1 L (s.lam.length+1) v cv) (hno: ∀b,¬bZ v cv b):
 ∃G1,Rel G1 L ({s with lam:=s.lam++[ob]}.put o.dst v) μ (a.put o.dst cv).tmps (w.alloc (.cells cur e fz))/\
  Ext L T0 G0 w0 G1 (w.alloc (.cells cur e fz)) (bH G1 (w.alloc (.cells cur e fz)) ({s with lam:=s.lam++[ob]}.put o.dst v) μ (a.put o.dst cv).tmps):=by
 obtain⟨R1,hle,hT,_⟩:=R.newLocal hfz (e:=e) hob λcs j b h1 h2=>(hown cs j b h1 h2).1;have E1:Ext L T0 G0 w0 (G.setL L s.lam.length w.heap.size kk s.pushed) (w.alloc (.cells cur e fz)) (bH (G.setL L s.lam.length w.heap.size kk s.pushed) (w.alloc (.cells cur e fz)) {s with lam:=s.lam++[ob]} μ a.tmps):=by
  refine⟨E.le.trans hle,E.os,E.tape,E.output,j5 E.size bG,λb hb hn=> ?_,λb hb=> ?_,λl hl=> ?_⟩
  ·obtain⟨h1,h2⟩:=E.keep b hb hn;have hlt:b<w.heap.size:=tq hb E.size;refine⟨(iN w _ hlt).trans h1,?_⟩;rw[<-h2];have:b≠w.heap.size:=bu;simp[Gh.setL,this]
  ·rcases hT b hb with h1|rfl|⟨cs,j,h1,h2⟩
   ·exact E.grow b h1
   ·exact .inr E.size
   ·exact(hown cs j b h1 h2).2
  ·obtain⟨h1,h2⟩:=E.lev l hl;obtain⟨h3,h4⟩:=K3 (G:=G) (m:=s.lam.length) (b:=w.heap.size) (kk:=kk) (pu:=s.pushed) l hl;simp_all
 obtain⟨R2,E2⟩:=ex (dst:=o.dst) (v:=v) (cv:=cv) R1 E1 (by simpa using hv _ _ rfl rfl) (λb hb=>absurd hb (hno b)) hd;exact⟨_,R2,E2⟩
def OS {cur:Array Value}{e:TypeId}{fz:Nat×Nat}{kk:Nat}: ∀G1 w1,G1=G.setL L s.lam.length w.heap.size kk s.pushed->w1=w.alloc (.cells cur e fz)->
 LVR G1 w1 L (s.lam.length+1) (.loc s.lam.length 0) (.pointer (some ⟨w.heap.size,0,none⟩)):=by
 intro G1 w1 hG hw;subst hG;simp only[LVR];exact⟨bu,by simp[Gh.setL]⟩
def PM {b:Bool}{n:Nat}{cur:Array Value}{e:TypeId}{fz:Nat×Nat}{kk:Nat}(hn:cur.size=n): ∀G1 w1,G1=G.setL L s.lam.length w.heap.size kk s.pushed->w1=w.alloc (.cells cur e fz)->
 LVR G1 w1 L (s.lam.length+1) (yW b s.lam.length e n) (.pointer (some ⟨w.heap.size,0,none⟩)):=by
 intro G1 w1 hG hw;cases b with
 |false=>exact OS G1 w1 hG hw|true=>
  subst hG;subst hw;simp only[LVR,yW];have e1:(G.setL L s.lam.length w.heap.size kk s.pushed).β L s.lam.length=w.heap.size:=by simp[Gh.setL]
  exact⟨bu,by rw[e1],cur,fz,by rw[e1];exact Array.getElem?_push_size,hn⟩
def Gs {cs:List CV}{cur:Array Value}(hl:VRL G w cs cur.toList){nl:Nat}:(cs.map LV.cv).length<=cur.size/\ ∀j x,(cs.map LV.cv)[j]? =some x->LVR G w L nl x (cur.getD j undef):=by obtain⟨e,hg⟩:=fY hl;refine⟨by simp at e |-; omega,λj x hx=> ?_⟩;simp only[fP,pi]at hx;obtain⟨c,hc,rfl⟩:=hx;obtain⟨v,hv,hr⟩:=hg j c hc;simp only[LVR];simp_all
def Bq {cs:List CV}{cur:Array Value}{j b:Nat}: ¬eZ (cs.map LV.cv) cur j b:=by rintro⟨x,hx,ho⟩;simp only[fP,pi]at hx;obtain⟨c,_,rfl⟩:=hx;simp[bZ]at ho
def YB {e:TypeId}(ho:o.op= .alloc e)(R:Rel G L s μ a.tmps w)(hd: ∀d,o.dst=some d->d<a.tmps.size)(hk:KOK L G w s μ a o.dst k r K)
 (hop:opt (zeroCells P e) (λcs=>k (yW h.cell (bw h.take s).lam.length e cs.length) {bw h.take s with lam:=(bw h.take s).lam++[.cells (cs.map .cv)]} μ)=some r):o.wp P a w K Q:=by
 obtain⟨cs,h1,hop⟩:=bz.1 hop;obtain⟨R1,E1,_⟩:=fa R h.take;obtain⟨z,i,hi,hz,hrun,hl⟩:=lE (P:=P) (G:=G) (w:=w) h1;obtain⟨G1,R2,E2⟩:=lx (o:=o) (kk:=0) (e:=e) R1 E1 hd (ol z.cells) (ob:= .cells (cs.map .cv)) (.inl ⟨_,rfl,Gs hl⟩)
  (λcs' j b he hc=>by injection he with he;subst he;exact absurd hc Bq) (PM (by have:=VRL_len hl;simpa using this.symm)) (λb hb=>by cases h.cell<;>simp[yW,bZ]at hb)
 refine ez ?_ (hk _ _ μ _ _ G1 hop R2 E2);simp only[execOp,ho];refine fo ?_;simp[Instr.alloc,hrun,newVar,newRow]
def lW {x:LV}{v:Value}{nl:Nat}{cs:List LV}(h:x.cells=some cs)(hv:LVR G w L nl x v):
 cs.length=v.cells.size/\(∀j y,cs[j]? =some y->LVR G w L nl y (v.cells.getD j undef))/\(∀u∈v.cells.toList,u.oneCell'=true)/\
 (∀j b,eZ cs v.cells j b->j=0/\bZ x v b):=by
 have one: ∀(y:LV),y=x->cs=[y]->v.oneCell'=true->cs.length=v.cells.size/\(∀j y,cs[j]? =some y->LVR G w L nl y (v.cells.getD j undef))/\(∀u∈v.cells.toList,u.oneCell'=true)/\
  (∀j b,eZ cs v.cells j b->j=0/\bZ x v b):=by
  rintro y rfl rfl h1;rw[G8 h1];refine⟨rfl,λj z hz=> ?_,by simpa using h1,?_⟩
  ·cases j with|zero=>simp only[eu,bJ]at hz;subst hz;exact hv|succ j=>simp at hz
  ·rintro j b ⟨z,hz,ho⟩;cases j with|zero=>simp only[eu,bJ]at hz;subst hz;exact⟨rfl,ho⟩|succ j=>simp at hz
 unfold LV.cells at h;split at h
 ·split at h<;>simp only[bJ,reduceCtorEq]at h;rename_i hs;subst h;simp only[LVR]at hv;obtain⟨hl,h1⟩:=lP hs hv;refine⟨by have:=VRL_len hl;simpa using this,(Gs hl).2,h1,λj b hc=>absurd hc Bq⟩
 ·simp at h
 ·simp only[bJ]at h;rename_i n1 n2;refine one x rfl h.symm ?_;cases x<;>simp only[LVR]at hv
  ·exact absurd rfl (n1 _)
  ·rcases hv with⟨_,rfl⟩|⟨_,_,_,_,_,rfl,_⟩<;>rfl
  ·obtain⟨_,rfl⟩:=hv;rfl
  ·obtain⟨_,_,_,_,_,rfl,_⟩:=hv;rfl
  ·obtain⟨_,rfl,_⟩:=hv;rfl
  ·exact absurd rfl (n2 _)
  ·obtain⟨_,rfl⟩:=hv;rfl
  ·obtain⟨_,rfl,_⟩:=hv;rfl
  ·rcases hv with⟨_,rfl⟩|⟨_,_,_,_,rfl,_⟩<;>rfl
  ·obtain⟨_,_,rfl⟩:=hv;rfl
def abC {e:TypeId}{x:Operand}(ho:o.op= .box e x)(R:Rel G L s μ a.tmps w)(hd: ∀d,o.dst=some d->d<a.tmps.size)(hk:KOK L G w s μ a o.dst k r K)
 (hop:uR (dz P e) (evA h s.fr x) (λcs=>k (.loc (bw h.take s).lam.length 0) {bw h.take s with lam:=(bw h.take s).lam++[.cells cs]} μ)=some r):o.wp P a w K Q:=by
 rw[oI]at hop;obtain⟨cs,h0,hop⟩:=bz.1 hop;have h1:=oJ h0;obtain⟨R1,E1,hO⟩:=fa R h.take;have hl:=ci h.take s;obtain⟨hv,hown⟩:=cI R h x;obtain⟨h2,h3,h4,h5⟩:=lW h1 hv;obtain⟨G1,R2,E2⟩:=lx (o:=o) (kk:=0) (e:=e) R1 E1 hd (ol (a.eval x).cells) (ob:= .cells cs) (.inl ⟨_,rfl,bu,by rw[hl.1];exact h3⟩)
  (λcs' j b he hc => by
   injection he with he;subst he;obtain⟨hj,ho'⟩:=h5 j b hc;obtain⟨t,ht,hot⟩:=hown b ho';refine⟨⟨λl hl'=> ?_,λlev i hlv=> ?_,λj' hc'=>by rw[(h5 j' b hc').1,hj]⟩,.inl (.inl ⟨.fr t,hot⟩)⟩
   ·obtain⟨a1,a2⟩:=hO l b hl';exact a1 t ht (R.own l (.fr t) b a2 hot)
   ·rw[hl.1]at hlv
    exact R.apart (.fr t) b lev i hot hlv) OS (λb hb=>by simp[bZ]at hb)
 refine ez ?_ (hk _ _ μ _ _ G1 hop R2 E2);simp only[execOp,ho];refine fo ?_;simp[Instr.box,newVar,newRow]
end
section
variable {P:Program}{ρ:Rho}{α:Type}{L:Nat}{G:Gh}{w:World}{s:S}{μ:Mu}{a:Act}{o:Oper}{h:OpHint}{k:LV->S->Mu->Option α}{p:CV->S->Mu->Option α}{r:α}{K:Act->World->Prop}{Q:Exit->Act->World->Prop}
def lw {G0:Gh}{w0:World}{T0:Nat->Prop}(R:Rel G L s μ a.tmps w)(E:Ext L T0 G0 w0 G w (bH G w s μ a.tmps))(hd: ∀d,o.dst=some d->d<a.tmps.size)
 {ob:Obj} {n:Nat} {v:LV} {cv:Value} (hv:Le G w (G.setO w.heap.size n) (w.alloc ob)->LVR (G.setO w.heap.size n) (w.alloc ob) L s.lam.length v cv) (ho: ∀b,bZ v cv b->b=w.heap.size):
 ∃G1,Rel G1 L (s.put o.dst v) μ (a.put o.dst cv).tmps (w.alloc ob)/\Ext L T0 G0 w0 G1 (w.alloc ob) (bH G1 (w.alloc ob) (s.put o.dst v) μ (a.put o.dst cv).tmps):=by
 obtain⟨R1,hO⟩:=R.alloc ob n;have hT: ∀b,bH (G.setO w.heap.size n) (w.alloc ob) s μ a.tmps b->bH G w s μ a.tmps b:=by
  intro b hb;rcases hb with⟨l,hb⟩|hb
  ·exact .inl ⟨l,hO l b hb⟩
  ·exact .inr hb
 have E1:Ext L (bH G w s μ a.tmps) G w (G.setO w.heap.size n) (w.alloc ob) (bH (G.setO w.heap.size n) (w.alloc ob) s μ a.tmps):=Ext.alloc ob n λb hb=> .inl (hT b hb)
 obtain ⟨R2, E2⟩ := ex (dst := o.dst) (v := v) (cv := cv) R1 (E.trans E1) (hv (vX ob n)) (λb hb => by
  have hb':=ho b hb;subst hb';refine⟨λl hl=> ?_,λlev i hl e=> ?_,.inr E.size⟩
  ·have:=R.touch_lt (.inl ⟨l,hO l _ hl⟩);omega
  ·have:=R.touch_lt (.inr ⟨lev,i,hl,e⟩)
   omega) hd
 grind
def zV {α:Type}: ∀(l pre mid post:List α),mid.length=l.length->dh (pre++mid++post) pre.length l=pre++l++post
 |[],pre,mid,post,h=>by have:mid=[]:=kM (by simpa using h);subst this;rfl|x::l,pre,mid,post,h=>by
  cases mid with|nil=>simp at h|cons m mid=>simp only[dh];have e:(pre++m::mid++post).set pre.length x=(pre++[x])++mid++post:=bG;rw[e];have:=zV l (pre++[x]) mid post (by simpa using h);simp_all
def GS {sz:Nat}: ∀{ps:List (Nat×CV)} {n:Nat} {xs:List CV},zm sz n ps=some xs-> ∀pre:List CV,pre.length=n*sz->
 oN (λi=>some (i*sz,sz)) (pre++List.replicate (xs.length*sz) .undef) ps=some (pre++xs.flatMap CV.cells)/\ ∀x∈xs,x.cells.length=sz
 |[],n,xs,h,pre,hp=>by simp only[zm,bJ]at h;subst h;simp[oN]|(i,c)::ps,n,xs,h,pre,hp=>by
  simp only[zm]at h;split at h<;>try(simp at h;done)
  rename_i hc;simp only[cM]at hc;have hi:=eC hc.1;have hl:=eC hc.2;obtain⟨ys,h1,h2⟩:=bz.1 h;simp only[bJ]at h2;subst h2;subst hi;obtain⟨ih1,ih2⟩:=GS h1 (pre++c.cells) (by rw[cC,hp,hl,pm];omega);refine⟨?_,λx hx=> ?_⟩
  ·simp only[oN];have hlen:(pre++List.replicate ((c::ys).length*sz) CV.undef).length=i*sz+(ys.length+1)*sz:=by simp[hp]
   have hle:Nat.ble (i*sz+sz) (pre++List.replicate ((c::ys).length*sz) CV.undef).length=true:=by rw[hlen];exact vO (by rw[pm ys.length];omega)
   have hb:(Nat.beq c.cells.length sz&&Nat.ble (i*sz+sz) (pre++List.replicate ((c::ys).length*sz) CV.undef).length)=true:=by simp_all
   rw[hb];have e:pre++List.replicate ((c::ys).length*sz) CV.undef=pre++List.replicate sz CV.undef++List.replicate (ys.length*sz) CV.undef:=by rw[eV,List.replicate_append_replicate];grind
   have:=zV c.cells pre (List.replicate sz CV.undef) (List.replicate (ys.length*sz) CV.undef) (by simp[hl]);simp_all
  grind
def Gt: ∀(vs:List Value),VRL G w (List.replicate vs.length .undef) vs
 |[]=>by simp[VRL]|v::r=>by simp only[cB,vE,VRL];exact⟨v,r,rfl,by simp[VR],Gt r⟩
def Fj {t e:TypeId}{sz len:Nat}{parts:Array (Nat×Operand)}{ps:List (Nat×CV)}{xs:List CV}{zc:List CV}(R:Rel G L s μ a.tmps w)(hu:P.underlying t=some (.slice e))(hsz:d4 P e=some sz)
 (hz:zeroCells P e=some zc) (hp:kG (evA h s.fr) parts.toList=some ps) (hx:zm sz 0 ps=some xs) (hlen:xs.length=len) (hsm:len*sz<=10000):
 ∃cur:Array Value,(Instr.buildSlice t len (parts.map λq=>(q.1,a.eval q.2))).run P w= .ok (.slice (some ⟨w.heap.size,0,none⟩) len len) (w.alloc (.cells cur e))/\
  VRL G w (xs.flatMap CV.cells) cur.toList/\cur.size=len*sz/\ ∀x∈xs,x.cells.length=sz:=by
 obtain⟨z,i,hi,hzi,hzr,hzl⟩:=lE (P:=P) (G:=G) (w:=w) hz;have hpr:=uw R h hp;have hparts:(parts.map λq=>(q.1,a.eval q.2)).toList=parts.toList.map λq=>(q.1,a.eval q.2):=bG;obtain⟨hf,hall⟩:=GS hx [] bG;simp only[fb]at hf;have hfill: ∀zz:Array Value,∃b:Array Value,Instr.fill (λi=>some (i*sz,sz)) ((Array.range (len*sz)).map (zz[· % zz.size]!)) (parts.toList.map λq=>(q.1,a.eval q.2))=some b/\VRL G w (xs.flatMap CV.cells) b.toList/\b.size=len*sz:=by
  intro zz;have hvl:VRL G w (List.replicate (xs.length*sz) CV.undef) ((Array.range (len*sz)).map (zz[· % zz.size]!)).toList:=by have:=Gt (G:=G) (w:=w) ((Array.range (len*sz)).map (zz[· % zz.size]!)).toList;simp_all
  obtain⟨b,hb,hr,hbs⟩:=wN hpr hvl hf;simp_all
 have h24: ¬len*sz>2^24:=bu;by_cases h0:len*sz=0
 ·obtain⟨b,hb,hr,hbs⟩:=hfill #[];refine⟨b,?_,hr,hbs,hall⟩;simp only[Instr.buildSlice,dc,c8 hu,df,fB hsz,bE h24,bK h0,eW,hparts,hb,newRow,run_newObj];rfl
 ·obtain⟨b,hb,hr,hbs⟩:=hfill z.cells;refine⟨b,?_,hr,hbs,hall⟩;simp only[Instr.buildSlice,dc,c8 hu,df,fB hsz,bE h24,bE h0,hzr,eW,hparts,hb,newRow,run_newObj];rfl
def IN {t e:TypeId}{len sz:Nat}{parts:Array (Nat×Operand)}{ps:List (Nat×CV)}{xs zc:List CV}(ho:o.op= .buildSlice t len parts)(R:Rel G L s μ a.tmps w)(hd: ∀d,o.dst=some d->d<a.tmps.size)(hk:KOK L G w s μ a o.dst k r K)
 (hu:P.underlying t=some (.slice e)) (hsz:d4 P e=some sz) (hby:nW P e=true) (hz:zeroCells P e=some zc) (hp:kG (evA h s.fr) parts.toList=some ps) (hx:zm sz 0 ps=some xs) (hlen:xs.length=len) (hsm:len*sz<=10000) (hbt:(Nat.beq e 5||gw xs)=true)
 (hop : (match h.arr with
  |false=>k (.osl xs) (bw h.take s) μ
  |true=>k (.lsl (bw h.take s).lam.length 0 len) {bw h.take s with lam:=(bw h.take s).lam++[.arr sz (xs.flatMap CV.cells)]} μ)=some r):o.wp P a w K Q:=by
 obtain⟨R1,E1,hO⟩:=fa R h.take;obtain⟨cur,hrun,hl,hcs,hall⟩:=Fj R hu hsz hz hp hx hlen hsm;have hrun':(execOp a.eval o).run P w= .ok (.value (.slice (some ⟨w.heap.size,0,none⟩) len len)) (w.alloc (.cells cur e)):=by simp only[execOp,ho];exact fo hrun
 have hsz1:1<=sz:=by
  unfold nW at hby
  unfold d4 at hsz;split at hby<;>try(simp at hby;done)
  rename_i i hi;rw[hi]at hsz;simp only[bJ,cM]at hsz hby
  have:=fO hby.2;omega
 have hlm:len<=10000:=j5 (Nat.le_mul_of_pos_right len hsz1) hsm;split at hop
 ·obtain ⟨G1, R2, E2⟩ := lw (o := o) (n := len * sz) (ob := .cells cur e) (v := .osl xs) (cv := .slice (some ⟨w.heap.size, 0, none⟩) len len) R1 E1 hd (λhle => by
   simp only[LVR];refine .inr ⟨w.heap.size,len,cur,e,sz,by rw[hlen],kN w _,bu,by unfold maxLen;omega,bu,hall,λh0=>by subst h0;simpa using hlen.symm,?_,by rw[fh,hlen],GD hbt⟩;obtain⟨hlen2,hg⟩:=fY hl;refine EL_of (vs:=cur.toList) hall (iP hlen2 λj c v hc hv=> ?_) λj v hv=> ?_
   ·obtain⟨v',hv',hr⟩:=hg j c hc;rw[hv]at hv';injection hv' with hv';subst hv';exact cZ hle c v hr
   ·have hj:j<cur.size:=by have:=(dm.1 hv).1;simpa using this
    rw[gC,fh];refine⟨?_,bu⟩;rw[cell_of_heap (kN w (.cells cur e)) hj];rw[q5]at hv
    simp[d7,hv]) (λb hb=>by simpa[bZ]using hb.symm)
  exact ez hrun' (hk _ _ μ _ _ G1 hop R2 E2)
 ·obtain ⟨G1, R2, E2⟩ := lx (o := o) (kk := sz) (e := e) R1 E1 hd (ol cur) (ob := .arr sz (xs.flatMap CV.cells)) (.inr ⟨_, rfl, by have := VRL_len hl; simp at this |-; omega, λj x hx => by
   obtain⟨v,hv,hr⟩:=(fY hl).2 j x hx;have:cur.getD j undef=v:=by rw[q5]at hv;simp[d7,hv]
   rw[this];exact hr⟩)
   (λcs' j b he hc => by cases he) (v := .lsl (bw h.take s).lam.length 0 len) (cv := .slice (some ⟨w.heap.size, 0, none⟩) len len) (λG1 w1 hG hw => by
    subst hG;subst hw;simp only[LVR];refine⟨bu,len,cur,e,(0,0),by simp[Gh.setL],cw _,by unfold maxLen;omega,?_,?_⟩
    ·simp only[Gh.setL,m5,cX];exact kN w _
    ·simp only[Gh.setL,m5,cX];omega) (λb hb=>by simp[bZ]at hb)
  exact ez hrun' (hk _ _ μ _ _ G1 hop R2 E2)
def aaa {e:TypeId}{x:Operand}(ho:o.op= .box e x)(R:Rel G L s μ a.tmps w)(hd: ∀d,o.dst=some d->d<a.tmps.size)(hk:KOK L G w s μ a o.dst k r K)
 (hop:opt (cx (evA h s.fr x)) (λc=>bB (s7 (dz P e) c) (k (.cv (.view (rJ (oG (dz P e) c)))) (bw h.take s) μ))=some r):o.wp P a w K Q:=by
 obtain⟨c,h1,hop⟩:=bz.1 hop;obtain⟨h2,hop⟩:=bM.1 hop;obtain⟨e1,e2⟩:=xo h2;rw[e2]at hop;obtain⟨R1,E1,hO⟩:=fa R h.take;have hv:=it h1 (cI R h x).1;obtain⟨hl,hone⟩:=lP e1 hv;obtain⟨hlen,hg⟩:=fY hl
 obtain ⟨G1, R2, E2⟩ := lw (o := o) (n := (a.eval x).cells.size) (ob := .cells (a.eval x).cells e) (v := .cv (.view (rJ c.cells))) (cv := .pointer (some ⟨w.heap.size, 0, none⟩)) R1 E1 hd (λhle => by
  simp only[LVR,VR];refine⟨w.heap.size,0,rfl,CL_of λj y hy=> ?_⟩;obtain⟨y',hy',hyy⟩:=t8 hy;obtain⟨u,hu,hr⟩:=hg j y' hy';have hj:j<(a.eval x).cells.size:=by have:=(dm.1 hu).1;simpa using this
  refine⟨u,?_,by rw[fh];omega,hyy _ _ u (cZ hle y' u hr)⟩;rw[gC,cell_of_heap (kN w _) hj];rw[q5]at hu
  simp[d7,hu]) (λb hb=>by simp[bZ]at hb)
 refine ez ?_ (hk _ _ μ _ _ G1 hop R2 E2);simp only[execOp,ho];refine fo ?_;simp[Instr.box,newVar,newRow]
def CW {α:Type}(z:List α): ∀n,(kc n z).length=n*z.length
 |0=>by simp[kc]|n+1=>by have:=CW z n;simp only[kc,vE,List.flatten_cons,cC]at this |-;grind
def KY {α:Type}(z:List α)(hz:0<z.length): ∀(n j:Nat),j<n*z.length->(kc n z)[j]? =z[j % z.length]?
 |0,j,h=>by simp at h|n+1,j,h=>by
  have e:kc (n+1) z=z++kc n z:=by simp[kc,vE]
  rw[e];by_cases hj:j<z.length
  ·rw[fN hj,Nat.mod_eq_of_lt hj]
  ·rw[ju bu,KY z hz n (j-z.length) (by rw[pm]at h;omega)];congr 1
   conv=>rhs;rw[show j=j-z.length+z.length by omega,Nat.add_mod_right]
def Lx {t:TypeId}{l c:Operand}(ho:o.op= .makeSlice t l c)(hsame:FT l c=true)(R:Rel G L s μ a.tmps w)(hd: ∀d,o.dst=some d->d<a.tmps.size)(hk:KOK L G w s μ a o.dst k r K)
 (hop:D3 P t (evA h s.fr l) (bw h.take s) μ k=some r):o.wp P a w K Q:=by
 have hlc:l=c:=by
  unfold FT at hsame;split at hsame
  ·rw[eC hsame]
  ·cases hsame
 subst hlc;unfold D3 at hop;split at hop<;>try(simp at hop;done)
 rename_i e hu;obtain⟨sz,hsz,hop⟩:=bz.1 hop;obtain⟨hby,hop⟩:=bM.1 hop;obtain⟨zc,hz,hop⟩:=bz.1 hop;obtain⟨hzl,hop⟩:=bM.1 hop;obtain⟨n,hn,hop⟩:=bz.1 hop;obtain⟨hg,hop⟩:=bM.1 hop;simp only[cM,dn]at hg;have hzl:=eC hzl;obtain⟨kk,hni⟩:=qB hn;have hv:=eA R hni;simp only[VR]at hv;obtain⟨i,hi,his⟩:=Ex hsz;obtain⟨z,i',hi',hiz,hzr,hzv⟩:=lE (P:=P) (G:=G) (w:=w) hz;rw[hi]at hi';injection hi' with hi';subst hi';have hbb:i.bytes<=128/\1<=i.size:=by
  unfold nW at hby
  rw[hi]at hby
  simp only[cM]at hby
  exact⟨fO hby.1,fO hby.2⟩
 have hzs:z.cells.size=sz:=by have:=VRL_len hzv;simp at this;omega
 have hrun:=run_makeSlice (P:=P) w t e i z hu hi hiz kk kk n n hg.1 (Bf n);obtain⟨R1,E1,hO⟩:=fa R h.take;have hl:=ci h.take s;have hms:n.toNat*i.size=n.toNat*sz:=by rw[his]
 have hrun':(execOp a.eval o).run P w= .ok (.value (.slice (some ⟨w.heap.size,0,none⟩) n.toNat n.toNat)) (w.alloc (.cells (madeCells z.cells (n.toNat*sz)) e)):=by simp only[execOp,ho,hv];refine fo ?_;have hb0:(i.bytes:Int)*n<=128*1000000000:=Int.mul_le_mul bu hg.2 hg.1 bu;rw[<-hms];exact run_make w t e i z hu hi hiz kk kk n n hg.1 (Bf n) bu bu
 have hget: ∀(j:Nat) x,(kc n.toNat zc)[j]? =some x->VR G w x ((madeCells z.cells (n.toNat*sz)).getD j undef):=by
  intro j x hx;have hj:j<(kc n.toNat zc).length:=(dm.1 hx).1;rw[CW,hzl]at hj;have hzp:0<zc.length:=bu;rw[KY zc hzp _ _ (by rw[hzl];exact hj),hzl]at hx;obtain⟨v,hv1,hv2⟩:=(fY hzv).2 _ x hx;rw[q5]at hv1;have hm:(madeCells z.cells (n.toNat*sz)).getD j undef=v:=by
   have hjs:j % sz<z.cells.size:=by rw[hzs];exact Nat.mod_lt _ bu
   have:z.cells[j % sz]! =v:=by rw[getElem!_pos z.cells (j % sz) hjs];rw[vN hjs]at hv1;exact gY hv1
   have h2:(madeCells z.cells (n.toNat*sz))[j]? =some (z.cells[j % z.cells.size]!):=by simp[madeCells,hj]
   rw[d7,h2,hzs];exact this
  rw[hm];exact hv2
 obtain⟨G1,R2,E2⟩:=lx (o:=o) (kk:=sz) (e:=e) R1 E1 hd (ol (madeCells z.cells (n.toNat*sz))) (ob:= .arr sz (kc n.toNat zc)) (.inr ⟨_,rfl,by rw[CW,hzl,size_madeCells];exact cw _,hget⟩)
  (λcs' j b he hc => by cases he) (v := .lsl (bw h.take s).lam.length 0 n.toNat) (cv := .slice (some ⟨w.heap.size, 0, none⟩) n.toNat n.toNat) (λG1 w1 hG hw => by
   subst hG;subst hw;simp only[LVR];refine⟨bu,n.toNat,madeCells z.cells (n.toNat*sz),e,(0,0),by simp[Gh.setL],cw _,by unfold maxLen;omega,?_,?_⟩
   ·simp only[Gh.setL,m5,cX];exact kN w _
   ·simp only[Gh.setL,m5,cX,size_madeCells];omega) (λb hb=>by simp[bZ]at hb)
 exact ez hrun' (hk _ _ μ _ _ G1 hop R2 E2)
def Qi (c:Array Value)(e:TypeId):((w.alloc (.cells c e)).freeze ⟨w.heap.size,c.size,none⟩ 1)=w.alloc (.cells c e (c.size,c.size+1)):=by simp only[World.freeze,World.alloc,Nat.one_ne_zero,dG];congr 1;grind
def iI (l:List UInt8):List Value:=l.map λb=> .int .u8 (b.toNat:Int)
def mI (l:List UInt8)(n:Nat):Array Value:=(iI l++List.replicate n (Value.int .u8 0)).toArray
def IL (l:List UInt8)(n:Nat):(mI l n).size=l.length+n:=by simp[mI,iI]
def K9 {src dst e:TypeId}{l:List UInt8}(hu:P.underlying dst=some (.slice e))(hue:P.underlying e=some (.int .u8))(hs:P.underlying src=some .string)(hl:l.length<=1099511627776):
 ∃(cap:Nat) (cur:Array Value),(convert src dst (.string ⟨⟨l⟩⟩)).run P w= .ok (.slice (some ⟨w.heap.size,0,none⟩) l.length cap) (w.drew.alloc (.cells cur e (cur.size,cur.size+1)))/\
  l.length<=cap/\cap<=maxLen/\cur.size=cap/\ ∀(j:Nat) b,l[j]? =some b->cur.getD j undef= .int .u8 (b.toNat:Int):=by
 have hge:=grownCap_ge w l.length 0 e;have hle:=Gk w l.length 0 e (by unfold maxLen;omega);refine⟨grownCap w l.length 0 e,mI l (grownCap w l.length 0 e-l.length),?_,hge,hle,by rw[IL];omega,?_⟩
 ·simp only[convert,dc,c8 hu,c8 hue,c8 hs,df,Conv.stringToBytes,run_choose,Question.forced,eD,dG];have hsz:(⟨⟨l⟩⟩:ByteArray).size=l.length:=rfl;rw[hsz];have hg:Question.cut (Question.appendCap l.length 0 e) (w.tape w.drawn (Question.appendCap l.length 0 e))=grownCap w l.length 0 e:=rfl;rw[hg];have harr:(Array.map (λ(b:UInt8)=>Value.int .u8 (b.toNat:Int)) (⟨⟨l⟩⟩:ByteArray).data++Array.replicate (grownCap w l.length 0 e-l.length) (Value.int .u8 0))=
   mI l (grownCap w l.length 0 e-l.length):=by
   apply Array.ext';simp[mI,iI]
  simp only[harr,newRow,dc,run_newObj,df,eW,markStringish,run_shape,World.alloc_eq,World.drew_eq,World.size_drew];have hsh:(w.drew.alloc (.cells (mI l (grownCap w l.length 0 e-l.length)) e)).shape? w.heap.size=some (e,(mI l (grownCap w l.length 0 e-l.length)).size):=by simp only[World.shape?];rw[show w.heap.size=w.drew.heap.size from rfl,kN]
  simp only[hsh,run_freeze,df];have:=Qi (w:=w.drew) (mI l (grownCap w l.length 0 e-l.length)) e;simp_all
 ·intro j b hb;have hj:j<l.length:=(dm.1 hb).1;have hj':(iI l)[j]? =some (Value.int .u8 (b.toNat:Int)):=by simp[iI,hb]
  have hjl:j<(iI l).length:=by simpa[iI]using hj
  simp only[mI,d7,F8,fN hjl,hj',gB]
def wG: ∀l:List UInt8,(l.map λ(b:UInt8)=>CV.v (.int .u8 (b.toNat:Int))).flatMap CV.cells=l.map λ(b:UInt8)=>CV.v (.int .u8 (b.toNat:Int))
 |[]=>rfl|b::l=>by simp only[dQ,tu,wG l,CV.cells];rfl
def PX {src dst e:TypeId}{x:Operand}{l:List UInt8}(ho:o.op= .convert src dst x)(R:Rel G L s μ a.tmps w)(hd: ∀d,o.dst=some d->d<a.tmps.size)(hk:KOK L G w s μ a o.dst k r K)
 (hu:P.underlying dst=some (.slice e)) (hue:P.underlying e=some (.int .u8)) (hs:P.underlying src=some .string) (he:evA h s.fr x=LV.str l) (hsm:small l.length=true)
 (hop : (match h.arr with
  |true=>k (.lsl (bw h.take s).lam.length 0 l.length) {bw h.take s with lam:=(bw h.take s).lam++[.arr 1 (l.map λb=> .v (.int .u8 (b.toNat:Int)))]} μ
  |false=>k (.cv (.sl (l.map λb=> .v (.int .u8 (b.toNat:Int))))) (bw h.take s) μ)=some r):o.wp P a w K Q:=by
 obtain⟨R1,E1,hO⟩:=fa R h.take;have hv:=eA R he;simp only[VR]at hv;simp only[small,dn]at hsm;obtain⟨cap,cur,hrun,h1,h2,h3,h4⟩:=K9 (P:=P) (w:=w) hu hue hs hsm;have hrun':(execOp a.eval o).run P w= .ok (.value (.slice (some ⟨w.heap.size,0,none⟩) l.length cap)) (w.drew.alloc (.cells cur e (cur.size,cur.size+1))):=by simp only[execOp,ho,hv];exact fo hrun
 obtain⟨R2,hO2⟩:=R1.drew;have E2:Ext L (bH G w s μ a.tmps) G w G w.drew (bH G w.drew (bw h.take s) μ a.tmps):=by
  refine E1.drew.weaken (λ_ h=>h) λb hb=> ?_;rcases hb with⟨l,hb⟩|hb
  ·exact .inl ⟨l,hO2 l b hb⟩
  ·exact .inr hb
 have hfz:g9 cur (cur.size,cur.size+1):=λj hj h=>by simp at h;omega
 have hcells: ∀(j:Nat) c,(l.map λ(b:UInt8)=>CV.v (.int .u8 (b.toNat:Int)))[j]? =some c-> ∃b,l[j]? =some b/\c= .v (.int .u8 (b.toNat:Int)):=by simp_all
 split at hop
 ·obtain ⟨G1, R3, E3⟩ := lx (o := o) (kk := 1) (e := e) R2 E2 hd hfz (ob := .arr 1 (l.map λb => .v (.int .u8 (b.toNat : Int)))) (.inr ⟨_, rfl, cr, λj x hx => by
   obtain⟨b,hb,rfl⟩:=hcells j x hx;simp only[VR]
   exact h4 j b hb⟩)
   (λcs' j b he hc => by cases he) (v := .lsl (bw h.take s).lam.length 0 l.length) (cv := .slice (some ⟨w.heap.size, 0, none⟩) l.length cap) (λG1 w1 hG hw => by
    subst hG;subst hw;simp only[LVR];refine⟨bu,cap,cur,e,(cur.size,cur.size+1),by simp[Gh.setL],h1,h2,?_,?_⟩
    ·simp only[Gh.setL,m5,cX];exact kN w.drew _
    ·simp only[Gh.setL,m5,cX];omega) (λb hb=>by simp[bZ]at hb)
  exact ez hrun' (hk _ _ μ _ _ G1 hop R3 E3)
 ·obtain ⟨G1, R3, E3⟩ := lw (o := o) (n := cur.size) (ob := .cells cur e (cur.size, cur.size + 1)) (v := .cv (.sl (l.map λb => .v (.int .u8 (b.toNat : Int))))) (cv := .slice (some ⟨w.heap.size, 0, none⟩) l.length cap) R2 E2 hd (λhle => by
   simp only[LVR,VR];refine⟨_,l.length,cap,rfl,bG,h1,.inr ⟨w.heap.size,0,1,rfl,λx hx=> ?_,?_⟩⟩
   ·obtain⟨b,_,rfl⟩:=nv.1 hx;rfl
   ·have hflat:=wG l;refine EL_of (vs:=(List.range l.length).map λj=>cur.getD j undef) (λx hx=>by obtain⟨b,_,rfl⟩:=nv.1 hx;rfl) ?_ λj v hv=> ?_
    ·rw[hflat];refine iP bG λj c v hc hv=> ?_;obtain⟨b,hb,rfl⟩:=hcells j c hc;have hj:j<l.length:=(dm.1 hb).1;simp only[fP,tn hj,d8,bJ]at hv;simp only[VR];rw[<-hv];exact h4 j b hb
    ·have hj:j<l.length:=by have:=(dm.1 hv).1;simpa using this
     simp only[fP,tn hj,d8,bJ]at hv;rw[gC,<-hv];refine⟨cell_of_heap (kN w.drew _) bu,?_⟩
     rw[show w.heap.size=w.drew.heap.size from rfl,fh];omega) (λb hb=>by simp[bZ]at hb)
  exact ez hrun' (hk _ _ μ _ _ G1 hop R3 E3)
end
def Gh.cut (G:Gh)(m:Nat):Gh:={G with n:=λl=>if l<m then G.n l else 0}
section
variable {G:Gh}{w:World}{lev m:Nat}
def cW {n:Nat}{c:CV}{r:List CV}(h:dl n (c::r)=true):below n c=true/\dl n r=true:=by simp only[dl]at h;grind
mutual
def gV: ∀(c:CV) (v:Value),below m c=true->VR G w c v->VR (G.cut m) w c v
 | .undef,v,_,_=>by simp[VR]| .v x,v,_,hv=>by simpa[VR]using hv| .agg cs,v,hb,hv=>by simp only[VR,below]at hv hb |-;obtain⟨vs,e,hl⟩:=hv;exact⟨vs,e,uL cs _ hb hl⟩
 | .sl xs,v,hb,hv=>by simp only[VR,below]at hv hb |-;obtain⟨A,len,cap,e,h1,h2,h3⟩:=hv;refine⟨A,len,cap,e,h1,h2,h3.imp id ?_⟩;rintro⟨b,off,s,e1,hs,hl⟩;exact⟨b,off,s,e1,hs,jg b s off xs hb hl⟩
 | .view cs,v,hb,hv=>by simp only[VR,below]at hv hb |-;obtain⟨b,off,e,hl⟩:=hv;exact⟨b,off,e,Ic b off cs hb hl⟩
 | .ref l i off,v,hb,hv=>by simp only[VR,below,dn]at hv hb |-;exact⟨by simp only[Gh.cut];rw[bK hb];exact hv.1,hv.2⟩| .msl l i off len,v,hb,hv=>by simp only[VR,below,dn]at hv hb |-;exact⟨by simp only[Gh.cut];rw[bK hb];exact hv.1,hv.2⟩| .mview ks vs,v,hb,hv=>by simp only[VR,below]at hv hb |-;obtain⟨r,es,clk,e,h1,h2,h3,h4⟩:=hv;exact⟨r,es,clk,e,h1,h2,h3,uL vs _ hb h4⟩
 | .mref l i,v,hb,hv=>by simp only[VR,below,dn]at hv hb |-;exact⟨by simp only[Gh.cut];rw[bK hb];exact hv.1,hv.2⟩| .tref l i t n,v,hb,hv=>by simp only[VR,below,dn]at hv hb |-;exact⟨by simp only[Gh.cut];rw[bK hb];exact hv.1,hv.2⟩| .clo f caps,v,hb,hv=>by simp only[VR,below]at hv hb |-;obtain⟨vs,e,hl⟩:=hv;exact⟨vs,e,uL caps _ hb hl⟩
 | .iface t x,v,hb,hv=>by simp only[VR,below]at hv hb |-;obtain⟨u,e,hl⟩:=hv;exact⟨u,e,gV x u hb hl⟩
def uL: ∀(cs:List CV) (vs:List Value),dl m cs=true->VRL G w cs vs->VRL (G.cut m) w cs vs
 |[],vs,_,hv=>by simpa[VRL]using hv|c::cs,vs,hb,hv=>by simp only[VRL]at hv |-;obtain⟨v,r,e,h1,h2⟩:=hv;exact⟨v,r,e,gV c v (cW hb).1 h1,uL cs r (cW hb).2 h2⟩
def Ic (b:Nat): ∀(off:Nat) (cs:List CV),dl m cs=true->CL G w b off cs->CL (G.cut m) w b off cs
 |_,[],_,_=>by simp[CL]|off,c::cs,hb,hv=>by simp only[CL]at hv |-;obtain⟨⟨v,hc,ho,h1⟩,h2⟩:=hv;exact⟨⟨v,hc,ho,gV c v (cW hb).1 h1⟩,Ic _ (off+1) cs (cW hb).2 h2⟩
def jg (b s:Nat): ∀(off:Nat) (cs:List CV),dl m cs=true->EL G w b s off cs->EL (G.cut m) w b s off cs
 |_,[],_,_=>by simp[EL]|off,.agg cs::r,hb,hv=>by simp only[EL]at hv |-;exact⟨Ic b off cs (by simpa[below]using(cW hb).1) hv.1,jg b s (off+s) r (cW hb).2 hv.2⟩|off,.undef::r,hb,hv=>by simp only[EL]at hv |-;obtain⟨⟨v,hc,ho,h1⟩,h2⟩:=hv;exact⟨⟨v,hc,ho,by simp[VR]⟩,jg _ s (off+s) r (cW hb).2 h2⟩
 |off,.v x::r,hb,hv=>by simp only[EL]at hv |-;obtain⟨⟨v,hc,ho,h1⟩,h2⟩:=hv;exact⟨⟨v,hc,ho,gV (.v x) v (cW hb).1 h1⟩,jg _ s (off+s) r (cW hb).2 h2⟩
 |off,.sl x::r,hb,hv=>by simp only[EL]at hv |-;obtain⟨⟨v,hc,ho,h1⟩,h2⟩:=hv;exact⟨⟨v,hc,ho,gV (.sl x) v (cW hb).1 h1⟩,jg _ s (off+s) r (cW hb).2 h2⟩
 |off,.view x::r,hb,hv=>by simp only[EL]at hv |-;obtain⟨⟨v,hc,ho,h1⟩,h2⟩:=hv;exact⟨⟨v,hc,ho,gV (.view x) v (cW hb).1 h1⟩,jg _ s (off+s) r (cW hb).2 h2⟩
 |off,.ref x y z::r,hb,hv=>by simp only[EL]at hv |-;obtain⟨⟨v,hc,ho,h1⟩,h2⟩:=hv;exact⟨⟨v,hc,ho,gV (.ref x y z) v (cW hb).1 h1⟩,jg _ s (off+s) r (cW hb).2 h2⟩
 |off,.msl x y z l::r,hb,hv=>by simp only[EL]at hv |-;obtain⟨⟨v,hc,ho,h1⟩,h2⟩:=hv;exact⟨⟨v,hc,ho,gV (.msl x y z l) v (cW hb).1 h1⟩,jg _ s (off+s) r (cW hb).2 h2⟩
 |off,.mview x y::r,hb,hv=>by simp only[EL]at hv |-;obtain⟨⟨v,hc,ho,h1⟩,h2⟩:=hv;exact⟨⟨v,hc,ho,gV (.mview x y) v (cW hb).1 h1⟩,jg _ s (off+s) r (cW hb).2 h2⟩
 |off,.mref x y::r,hb,hv=>by simp only[EL]at hv |-;obtain⟨⟨v,hc,ho,h1⟩,h2⟩:=hv;exact⟨⟨v,hc,ho,gV (.mref x y) v (cW hb).1 h1⟩,jg _ s (off+s) r (cW hb).2 h2⟩
 |off,.tref x y t n::r,hb,hv=>by simp only[EL]at hv |-;obtain⟨⟨v,hc,ho,h1⟩,h2⟩:=hv;exact⟨⟨v,hc,ho,gV (.tref x y t n) v (cW hb).1 h1⟩,jg _ s (off+s) r (cW hb).2 h2⟩
 |off,.clo f x::r,hb,hv=>by simp only[EL]at hv |-;obtain⟨⟨v,hc,ho,h1⟩,h2⟩:=hv;exact⟨⟨v,hc,ho,gV (.clo f x) v (cW hb).1 h1⟩,jg _ s (off+s) r (cW hb).2 h2⟩
 |off,.iface t x::r,hb,hv=>by simp only[EL]at hv |-;obtain⟨⟨v,hc,ho,h1⟩,h2⟩:=hv;exact⟨⟨v,hc,ho,gV (.iface t x) v (cW hb).1 h1⟩,jg _ s (off+s) r (cW hb).2 h2⟩
end
def yZ:G.below lev=G.cut (lev+1):=by simp only[Gh.below,Gh.cut,Nat.lt_succ_iff]
def IE (c:CV)(v:Value)(hb:below (lev+1) c=true)(h:VR G w c v):VR (G.below lev) w c v:=by rw[yZ];exact gV c v hb h
def Vp (b s off:Nat)(cs:List CV)(hb:dl (lev+1) cs=true)(h:EL G w b s off cs):EL (G.below lev) w b s off cs:=by rw[yZ];exact jg b s off cs hb h
def Gr {xs:List CV}{v:Value}(hb:dl m xs=true)(h:ox G w xs v):ox (G.cut m) w xs v:=by
 rcases h with h|⟨b,cap,cur,e,s,h1,h2,h3,h4,h5,h6,h7,h8,h9,h10⟩
 ·exact .inl h
 ·exact .inr ⟨b,cap,cur,e,s,h1,h2,h3,h4,h5,h6,h7,jg b s 0 xs hb h8,h9,h10⟩
def Lm {xs:List CV}{v:Value}(hb:dl (lev+1) xs=true)(h:ox G w xs v):ox (G.below lev) w xs v:=by
 rcases h with h|⟨b,cap,cur,e,s,h1,h2,h3,h4,h5,h6,h7,h8,h9,h10⟩
 ·exact .inl h
 ·exact .inr ⟨b,cap,cur,e,s,h1,h2,h3,h4,h5,h6,h7,Vp b s 0 xs hb h8,h9,h10⟩
def R9 {L nl nl':Nat}{x:LV}{v:Value}(hb:FM lev x=true)(h:LVR G w L nl x v):LVR (G.below lev) w lev nl' x v:=by
 cases x<;>simp only[FM,eD]at hb<;>simp only[LVR]at h |-
 ·exact IE _ _ hb h
 ·exact Lm hb h
end
section
variable {P:Program}{ρ:Rho}{α:Type}{L:Nat}{G:Gh}{w:World}{s:S}{μ:Mu}{a:Act}{o:Oper}{h:OpHint}{k:LV->S->Mu->Option α}{p:CV->S->Mu->Option α}{r:α}{K:Act->World->Prop}{Q:Exit->Act->World->Prop}
def Rv {x:Sem Unit}{w':World}(h:x.run P w= .ok () w'):(do x;pure Next.skip:Sem Next).run P w= .ok .skip w':=by simp_all
def kH {cur:Array Value}{off:Nat}{vs:List Value}{j:Nat}(h:off+vs.length<=cur.size)(hj:j<vs.length):(dO cur off vs).getD (off+j) undef=vs.getD j undef:=by have:=zN vs off cur j h hj;simp_all
def iG {cur:Array Value}{off:Nat}{vs:List Value}{j:Nat}(h:j<off\/off+vs.length<=j):(dO cur off vs).getD j undef=cur.getD j undef:=by
 simp only[d7];rcases h with h|h
 ·rw[o8 vs off cur j h]
 ·rw[sY vs off cur j h]
def xM {n:Nat}{c:CV}(h:ga n c=true):c.cells.length=n/\iH c=true:=by simp only[ga,cM]at h;simp_all
def obW (b:Bool)(n:Nat)(o:Ob)(off:Nat)(v:LV):Option Ob:=
 match o with
 | .cells cs=>opt (sL b v) λvs=>match Nat.beq vs.length n&&Nat.ble (off+n) cs.length with
  |true=>some (.cells (dh cs off vs))|false=>none
 | .arr sz cs=>opt (cx v) λc=>match ga n c&&Nat.ble (off+n) cs.length with
  |true=>some (.arr sz (dh cs off c.cells))|false=>none
 | .dead=>none| .map _ _=>none
def UA {P:Program}{t:TypeId}{o o':Ob}{off:Nat}{v:LV}(h:du P t o off v=some o'): ∃n,d4 P t=some n/\obW (dz P t) n o off v=some o':=by
 cases o with
 |dead=>cases h|map ks vs=>cases h|cells cs=>simp only[du]at h;obtain⟨vs,h1,h⟩:=bz.1 h;obtain⟨n,h2,h⟩:=bz.1 h;exact⟨n,h2,bz.2 ⟨vs,h1,h⟩⟩
 |arr sz cs=>simp only[du]at h;obtain⟨c,h1,h⟩:=bz.1 h;obtain⟨n,h2,h⟩:=bz.1 h;exact⟨n,h2,bz.2 ⟨c,h1,h⟩⟩
def Rel.writeW {G0:Gh}{w0:World}{tm:Array Value}{T0:Nat->Prop}{s1:S}{μ1:Mu}{lev i off:Nat}{ob o':Ob}{v:LV}{cv:Value}{bb:Bool}{n:Nat}(R:Rel G L s μ tm w)
 (E:Ext L T0 G0 w0 G w (bH G w s μ tm)) (hob:bP (μ++[s.lam]) lev i=ob) (hw:obW bb n ob off v=some o')
 (hv:(lev=L->LVR G w L s.lam.length v cv)/\(lev<L->LVR (G.below lev) w lev 0 v cv))
 (hown: ∀b,bZ v cv b->(∀l,¬bF G w s.fr tm (μ++[s.lam]) l b)/\(∀lev i,b6 (bP (μ++[s.lam]) lev i)->G.β lev i≠b)/\(T0 b\/w0.heap.size<=b))
 (hfr:s1.fr=s.fr) (hp:s1.pushed=s.pushed) (hlen:s1.lam.length=s.lam.length) (hμlen:μ1.length=μ.length) (hH:μ1++[s1.lam]=cq (μ++[s.lam]) lev i o'):
 ∃w',cv.cells.size=n/\(storeCells ⟨G.β lev i,off,none⟩ cv.cells.toList).run P w= .ok () w'/\Rel G L s1 μ1 tm w'/\Ext L T0 G0 w0 G w' (bH G w' s1 μ1 tm):=by
 have hl:b6 (bP (μ++[s.lam]) lev i):=by rw[hob];cases ob<;>first|trivial|simp[obW]at hw
 have hlvl:lev=L\/lev<L:=by rcases e8 R.lev hl with⟨h1,_⟩|⟨h1,_⟩<;>omega
 have hobr:(lev=L->ObR G w L s.lam.length (G.β lev i) (G.sz lev i) ob)/\(lev<L->ObR (G.below lev) w lev 0 (G.β lev i) (G.sz lev i) ob):=by
  rcases e8 R.lev hl with⟨h1,h2⟩|⟨rfl,h1,h2⟩
  ·refine⟨λe=>by omega,λ_=> ?_⟩;rw[<-hob,h2];exact R.mu lev i h1
  ·refine⟨λ_=> ?_,λe=>by omega⟩;rw[<-hob,h2];exact R.lam i
 have hblk: ∃cur e fz,w.heap[G.β lev i]? =some (.cells cur e fz)/\g9 cur fz/\G.O (G.β lev i)=0/\(∀cs,ob= .cells cs->cs.length<=cur.size)/\(∀k cs,ob= .arr k cs->k=G.sz lev i/\cs.length<=cur.size):=by
  rcases hlvl with e|e
  ·have:=hobr.1 e;cases ob with
   |dead=>simp[obW]at hw|map ks vs=>simp[obW]at hw|cells cs=>simp only[ObR]at this;obtain⟨cur,e,fz,h1,h2,h3,h4,_⟩:=this;exact⟨cur,e,fz,h1,h2,h3,λ_ hc=>by injection hc with hc;subst hc;exact h4,λ_ _ hc=>by cases hc⟩
   |arr kk cs=>simp only[ObR]at this;obtain⟨hk,cur,e,fz,h1,h2,h3,h4,_⟩:=this;exact⟨cur,e,fz,h1,h2,h3,λ_ hc=>(by cases hc),λ_ _ hc=>(by injection hc with hc hc';subst hc;subst hc';exact⟨hk,h4⟩)⟩
  ·have:=hobr.2 e;cases ob with
   |dead=>simp[obW]at hw|map ks vs=>simp[obW]at hw|cells cs=>simp only[ObR]at this;obtain⟨cur,e,fz,h1,h2,h3,h4,_⟩:=this;exact⟨cur,e,fz,h1,h2,h3,λ_ hc=>by injection hc with hc;subst hc;exact h4,λ_ _ hc=>by cases hc⟩
   |arr kk cs=>simp only[ObR]at this;obtain⟨hk,cur,e,fz,h1,h2,h3,h4,_⟩:=this;exact⟨cur,e,fz,h1,h2,h3,λ_ hc=>(by cases hc),λ_ _ hc=>(by injection hc with hc hc';subst hc;subst hc';exact⟨hk,h4⟩)⟩
 obtain⟨cur,e,fz,hb,hu,hO,hc1,hc2⟩:=hblk;have hsz:cv.cells.size=n/\off+n<=cur.size/\(∀u∈cv.cells.toList,u.oneCell'=true):=by
  cases ob with
  |dead=>simp[obW]at hw|map ks vs=>simp[obW]at hw|cells cs=>
   simp only[obW]at hw;obtain⟨vs,h1,hw⟩:=bz.1 hw;split at hw<;>simp only[bJ,reduceCtorEq]at hw;rename_i hc;simp only[cM]at hc;have hcn:=eC hc.1;have hle:=fO hc.2;have:=hc1 cs rfl;rcases hlvl with e|e
   ·obtain⟨h2,h3,h4,h5⟩:=lW (oJ h1) (hv.1 e);exact⟨bu,bu,h4⟩
   ·obtain⟨h2,h3,h4,h5⟩:=lW (oJ h1) (hv.2 e);exact⟨bu,bu,h4⟩
  |arr kk cs=>
   simp only[obW]at hw;obtain⟨c,h1,hw⟩:=bz.1 hw;split at hw<;>simp only[bJ,reduceCtorEq]at hw;rename_i hc;simp only[cM]at hc;obtain⟨hcn,hso⟩:=xM hc.1;have hle:=fO hc.2;have:=(hc2 kk cs rfl).2;rcases hlvl with e|e
   ·obtain⟨h2,h3⟩:=lP hso (it h1 (hv.1 e));have:=VRL_len h2;exact⟨by simp at this;omega,bu,h3⟩
   ·obtain⟨h2,h3⟩:=lP hso (it h1 (hv.2 e));have:=VRL_len h2;exact⟨by simp at this;omega,bu,h3⟩
 obtain⟨hcn,hfit,hone⟩:=hsz;have hrun:(storeCells ⟨G.β lev i,off,none⟩ cv.cells.toList).run P w= .ok () (w.setRow (G.β lev i) (dO cur off cv.cells.toList)):=by have:=pV (P:=P) (G.β lev i) off e fz cv.cells.toList 0 cur w hb hu (by simpa[hcn]using hfit) hone;simpa only[lH]using this
 have hvl:cv.cells.toList.length=n:=by simpa using hcn
 refine⟨_,hcn,hrun,?_⟩;have hownβ: ∀b,bZ v cv b->b≠G.β lev i:=λb hb e=>(hown b hb).2.1 lev i hl e.symm;have hcell: ∀cs' k b,o'= .cells cs'->eZ cs' (dO cur off cv.cells.toList) k b->
  (bF G w s.fr tm (μ++[s.lam]) (.ob lev i k) b/\(k<off\/off+n<=k))\/(k=off/\bZ v cv b):=by
  rintro cs' k b rfl ⟨x,hx,hox⟩;cases ob with
  |dead=>simp[obW]at hw|map ks vs=>simp[obW]at hw|arr kk cs=>simp only[obW]at hw;obtain⟨c,h1,hw⟩:=bz.1 hw;split at hw<;>simp at hw
  |cells cs=>
   simp only[obW]at hw;obtain⟨vs,h1,hw⟩:=bz.1 hw;split at hw<;>simp only[bJ,reduceCtorEq,Ob.cells.injEq]at hw;rename_i hc;simp only[cM]at hc;have hvn:=eC hc.1;have hle:=fO hc.2;subst hw;have hlr: ∃(G2:Gh) (L2 nl2:Nat),LVR G2 w L2 nl2 v cv:=by
    rcases hlvl with e|e
    ·exact⟨_,_,_,hv.1 e⟩
    ·exact⟨_,_,_,hv.2 e⟩
   obtain⟨G2,L2,nl2,hlr⟩:=hlr;obtain⟨h2,h3,h4,h5⟩:=lW (oJ h1) hlr;by_cases hk:k<off\/off+n<=k
   ·left;rw[iG (by rw[hvl];exact hk)]at hox;have hx':cs[k]? =some x:=by
     rcases hk with hk|hk
     ·rw[je vs off cs k hk]at hx;exact hx
     ·rw[kI vs off cs k bu]at hx;exact hx
    refine⟨?_,hk⟩;simp only[bF,hob,hx'];exact⟨cur,e,fz,hb,hox⟩
   ·right;obtain⟨j,rfl⟩: ∃j,k=off+j:=⟨k-off,bu⟩;rw[kH bu bu]at hox;rw[ni vs off cs j bu bu]at hx
    have : eZ vs cv.cells j b := ⟨x, hx, by
     rw[fp,q5]at hox
     rw[d7];exact hox⟩
    obtain⟨hj,ho⟩:=h5 j b this;exact⟨bu,ho⟩
 have hnew: ∀G' w',Le G w G' w'->G'=G->w'=w.setRow (G.β lev i) (dO cur off cv.cells.toList)-> ∀(G2:Gh) (L2 nl2:Nat),(∀l i,G2.β l i=G.β l i)->G2.O=G.O->Le G2 w G2 w'->ObR G2 w L2 nl2 (G.β lev i) (G.sz lev i) ob->
  LVR G2 w L2 nl2 v cv->ObR G2 w' L2 nl2 (G.β lev i) (G.sz lev i) o':=by
  intro G' w' _ hG' hw' G2 L2 nl2 hβ2 hO2 hle2 hr hvr;subst hw';have hnh:=pZ w (G.β lev i) cur (dO cur off cv.cells.toList) e fz hb;have hkeep: ∀b,b≠G.β lev i->(w.setRow (G.β lev i) (dO cur off cv.cells.toList)).heap[b]? =w.heap[b]? :=λb h=>oq w _ b _ h;have hun:g9 (dO cur off cv.cells.toList) fz:=λj hj=>hu j (by simpa[fe]using hj);cases ob with
  |dead=>simp[obW]at hw|map ks vs=>simp[obW]at hw|cells cs=>
   simp only[obW]at hw;obtain⟨vs,h1,hw⟩:=bz.1 hw;split at hw<;>simp only[bJ,reduceCtorEq]at hw;rename_i hc;simp only[cM]at hc;have hvn:=eC hc.1;have hle:=fO hc.2;subst hw;obtain⟨h2,h3,h4,h5⟩:=lW (oJ h1) hvr;simp only[ObR]at hr |-;obtain⟨cur2,e2,fz2,hb2,_,_,hcs,hr⟩:=hr;rw[hb]at hb2;obtain⟨rfl,rfl,rfl⟩:=(j4 ..).mp (gY hb2);refine⟨_,e,fz,hnh,hun,by rw[hO2];exact hO,by rw[pe,fe];exact hcs,λk x hx=> ?_⟩;by_cases hk:k<off\/off+n<=k
   ·rw[iG (by rw[hvl];exact hk)];have hx':cs[k]? =some x:=by
     rcases hk with hk|hk
     ·rw[je vs off cs k hk]at hx;exact hx
     ·rw[kI vs off cs k bu]at hx;exact hx
    refine fw hle2 (cw _) (λ_ _=>⟨rfl,rfl⟩) x _ (λb hox=>⟨hkeep b λeb=> ?_,rfl⟩) (hr k x hx');subst eb;refine R.apart (.ob lev i k) _ lev i ?_ hl rfl;simp only[bF,hob,hx'];exact⟨cur,e,fz,hb,hox⟩
   ·obtain⟨j,rfl⟩: ∃j,k=off+j:=⟨k-off,bu⟩;rw[kH bu bu];rw[ni vs off cs j bu bu]at hx;have hgd:cv.cells.toList.getD j undef=cv.cells.getD j undef:=by rw[fp,q5,d7]
    rw[hgd];refine fw hle2 (cw _) (λ_ _=>⟨rfl,rfl⟩) x _ (λb hox=>⟨hkeep b (hownβ b (h5 j b ⟨x,hx,hox⟩).2),rfl⟩) (h3 j x hx)
  |arr kk cs=>
   simp only[obW]at hw;obtain⟨c,h1,hw⟩:=bz.1 hw;split at hw<;>simp only[bJ,reduceCtorEq]at hw;rename_i hc;simp only[cM]at hc;obtain⟨hvn,hso⟩:=xM hc.1;have hle:=fO hc.2;subst hw;obtain⟨h2,h3⟩:=lP hso (it h1 hvr);simp only[ObR]at hr |-;obtain⟨hkk,cur2,e2,fz2,hb2,_,_,hcs,hr⟩:=hr;rw[hb]at hb2;obtain⟨rfl,rfl,rfl⟩:=(j4 ..).mp (gY hb2);refine⟨hkk,_,e,fz,hnh,hun,by rw[hO2];exact hO,by rw[pe,fe];exact hcs,λk x hx=> ?_⟩;by_cases hk:k<off\/off+n<=k
   ·rw[iG (by rw[hvl];exact hk)];have hx':cs[k]? =some x:=by
     rcases hk with hk|hk
     ·rw[je c.cells off cs k hk]at hx;exact hx
     ·rw[kI c.cells off cs k bu]at hx;exact hx
    exact cZ hle2 x _ (hr k x hx')
   ·obtain⟨j,rfl⟩: ∃j,k=off+j:=⟨k-off,bu⟩;rw[kH bu bu];rw[ni c.cells off cs j bu bu]at hx;obtain⟨u,hu1,hu2⟩:=(fY h2).2 j x hx;rw[fp,hu1];exact cZ hle2 x _ hu2
 obtain⟨R1,hle,hT,hO1,hO2,hlv⟩:=R.setOb (s1:=s1) (μ1:=μ1) (o':=o') (cur':=dO cur off cv.cells.toList) hl hb (fe _ _ _) hfr hp hlen hμlen hH
  (λG' w' hle hG hw' => ⟨λe => by
   have hle':Le G w G w':=by rw[hG]at hle;exact hle
   rw[hG];exact hnew G' w' hle hG hw' G L s.lam.length (λ_ _=>rfl) rfl hle' (hobr.1 e) (hv.1 e),
   λe=>by
    have hle':Le G w G w':=by rw[hG]at hle;exact hle
    rw[hG];exact hnew G' w' hle hG hw' (G.below lev) lev 0 (λ_ _=>rfl) rfl (hle'.below lev) (hobr.2 e) (hv.2 e)⟩)
  (λcs' k b he hco => by
   rcases hcell cs' k b he hco with⟨h1,_⟩|⟨h1,h2⟩
   ·exact .inl h1
   ·refine .inr ⟨(hown b h2).1,(hown b h2).2.1,λk' hk'=> ?_⟩;rcases hcell cs' k' b he hk' with⟨h3,_⟩|⟨h3,_⟩
    ·exact absurd h3 ((hown b h2).1 _)
    ·omega)
 refine⟨R1,E.le.trans hle,E.os,E.tape,E.output,by simpa using E.size,λb hb hn=> ?_,λb hb=> ?_,E.lev⟩
 ·obtain⟨h1,h2⟩:=E.keep b hb hn;refine⟨?_,h2⟩;rw[<-h1];refine oq w _ b _ λeb=> ?_;subst eb;rcases E.grow _ (.inr ⟨lev,i,hl,rfl⟩)with h|h
  ·exact hn h
  ·omega
 ·rcases hT b hb with h1|⟨cs',k,he,hco⟩
  ·exact E.grow b h1
  ·rcases hcell cs' k b he hco with⟨h1,_⟩|⟨_,h1⟩
   ·exact E.grow b (.inl ⟨_,h1⟩)
   ·exact(hown b h1).2.2
def Rel.writeOb {G0:Gh}{w0:World}{tm:Array Value}{T0:Nat->Prop}{s1:S}{μ1:Mu}{lev i off:Nat}{ob o':Ob}{v:LV}{cv:Value}{t:TypeId}(R:Rel G L s μ tm w)
 (E:Ext L T0 G0 w0 G w (bH G w s μ tm)) (hob:bP (μ++[s.lam]) lev i=ob) (hw:du P t ob off v=some o')
 (hv:(lev=L->LVR G w L s.lam.length v cv)/\(lev<L->LVR (G.below lev) w lev 0 v cv))
 (hown: ∀b,bZ v cv b->(∀l,¬bF G w s.fr tm (μ++[s.lam]) l b)/\(∀lev i,b6 (bP (μ++[s.lam]) lev i)->G.β lev i≠b)/\(T0 b\/w0.heap.size<=b))
 (hfr:s1.fr=s.fr) (hp:s1.pushed=s.pushed) (hlen:s1.lam.length=s.lam.length) (hμlen:μ1.length=μ.length) (hH:μ1++[s1.lam]=cq (μ++[s.lam]) lev i o'):
 ∃w',(storeVar t ⟨G.β lev i,off,none⟩ cv).run P w= .ok () w'/\Rel G L s1 μ1 tm w'/\Ext L T0 G0 w0 G w' (bH G w' s1 μ1 tm):=by
 obtain⟨n,hn,hw'⟩:=UA hw;obtain⟨w',h1,h2,h3,h4⟩:=R.writeW (P:=P) (s1:=s1) (μ1:=μ1) E hob hw' hv hown hfr hp hlen hμlen hH;refine⟨w',?_,h3,h4⟩;simp only[storeVar,dc,fB hn,df,h1,ne_eq,vG,dG,h2]
def YI {t:TypeId}{x y:Operand}(ho:o.op= .store t x y)(R:Rel G L s μ a.tmps w)(hd: ∀d,o.dst=some d->d<a.tmps.size)(hk:KOK L G w s μ a o.dst k r K)
 (hop:lC P h t (evA h s.fr x) (evA h s.fr y) (bw h.take s) μ k=some r):o.wp P a w K Q:=by
 obtain⟨R1,E1,hO⟩:=fa R h.take;have hl:=ci h.take s;obtain⟨hv,hown⟩:=cI R h y;have hown': ∀b,bZ (evA h s.fr y) (a.eval y) b->(∀l,¬bF G w (bw h.take s).fr a.tmps (μ++[(bw h.take s).lam]) l b)/\(∀lev i,b6 (bP (μ++[(bw h.take s).lam]) lev i)->G.β lev i≠b)/\(bH G w s μ a.tmps b\/w.heap.size<=b):=by
  intro b hb;obtain⟨tt,ht,hot⟩:=hown b hb;refine⟨λl hl'=> ?_,λlev i hlv=> ?_,.inl (.inl ⟨.fr tt,hot⟩)⟩
  ·obtain⟨a1,a2⟩:=hO l b hl';exact a1 tt ht (R.own l (.fr tt) b a2 hot)
  ·rw[hl.1]at hlv;exact R.apart (.fr tt) b lev i hot hlv
 unfold lC at hop;split at hop
 ·rename_i i off he;have hx:=(cI R h x).1;rw[he]at hx;simp only[LVR]at hx;split at hop<;>try(simp at hop;done)
  rw[qg]at hop;obtain⟨o',h1,h2⟩:=bz.1 hop;obtain⟨w',hrun,R2,E2⟩:=R1.writeOb (P:=P) (s1:={bw h.take s with lam:=(bw h.take s).lam.set i o'}) (μ1:=μ) (lev:=L) (i:=i) (off:=off) (cv:=a.eval y) E1 (by rw[<-R.lev];exact cV) h1
   ⟨λ_=>by rw[hl.1];exact hv,λe=>by omega⟩ hown' rfl rfl bG rfl (by rw[<-R.lev];exact od.symm)
  obtain⟨R3,E3⟩:=ex (dst:=o.dst) (v:= .cv .undef) (cv:=undef) R2 E2 (by simp[LVR,VR]) (λb hb=>by simp[bZ]at hb) hd;refine rR ?_ (hk _ _ _ _ w' G h2 R3 E3);simp only[execOp,ho,hx.2];refine Rv ?_;simp only[Instr.storeAt,Instr.sureAddr,dc,eW,df,hrun]
 ·split at hop<;>try(simp at hop;done)
  obtain⟨q,hc,hop⟩:=bz.1 hop;have hx:=eA R (tS hc);simp only[VR]at hx;obtain⟨hok,hop⟩:=bM.1 hop;obtain⟨o',h1,h2⟩:=bz.1 hop;have hq:q.1<μ.length:=by
   by_cases hq:q.1<μ.length
   ·exact hq
   ·simp only[b7]at h1;rw[fq bu]at h1;simp[du]at h1
  obtain⟨w',hrun,R2,E2⟩:=R1.writeOb (P:=P) (s1:=bw h.take s) (μ1:=cq μ q.1 q.2.1 o') (lev:=q.1) (i:=q.2.1) (off:=q.2.2) (cv:=a.eval y) E1 (cS hq) h1
   ⟨λe=>by rw[R.lev]at hq;omega,λ_=>R9 hok hv⟩ hown' rfl rfl rfl kU.1 (kV hq).symm
  obtain⟨R3,E3⟩:=ex (dst:=o.dst) (v:= .cv .undef) (cv:=undef) R2 E2 (by simp[LVR,VR]) (λb hb=>by simp[bZ]at hb) hd;refine rR ?_ (hk _ _ _ _ w' G h2 R3 E3);simp only[execOp,ho,hx.2];refine Rv ?_;simp only[Instr.storeAt,Instr.sureAddr,dc,eW,df,hrun]
 ·simp at hop
end
end Go.Abs
