/-
  The statement ExprTokensCardSaid, proved; part 2 of 11 of its proof.
-/
import Derived.Test.YtmemoghbijcebaaGreatDoorT0
set_option linter.all false
namespace Go.Abs
open Go
def Gh.setL (G:Gh)(L m b k:Nat)(pushed:Bool):Gh where
 O:=λx=>if x=b then 0 else G.O x
 β:=λl i=>if l=L/\i=m then b else G.β l i
 n:=λl=>if l=L/\pushed=true then m+1 else G.n l
 sz:=λl i=>if l=L/\i=m then k else G.sz l i
section
variable {G:Gh}{w:World}{L:Nat}{P:Program}
def mX {l:Lam}{o:Ob}{i:Nat}(h:i<l.length):bU (l++[o]) i=bU l i:=by simp[bU,gK h]
def p4 {l:Lam}{o:Ob}:bU (l++[o]) l.length=o:=by simp[bU]
def BG {l:Lam}{o:Ob}{i:Nat}(h:l.length<i):bU (l++[o]) i= .dead:=by simp only[bU];grind
def fD (cs:List LV)(cur:Array Value)(k b:Nat):Prop:= ∃x,cs[k]? =some x/\b6 x (cur.getD k undef) b
def Rel.newLocal {s:S}{μ:Mu}{tm:Array Value}(R:Rel G L s μ tm w){cur:Array Value}{e:TypeId}{ob:Ob}{k:Nat}{fz:Nat×Nat}(hfz:iQ cur fz)
 (hob : (∃ cs, ob = .cells cs /\ cs.length <= cur.size /\ ∀ j x, cs[j]? = some x -> LVR G w L s.lam.length x (cur.getD j undef)) \/
  (∃cs,ob= .arr k cs/\cs.length<=cur.size/\ ∀j x,cs[j]? =some x->VR G w x (cur.getD j undef)))
 (hown: ∀cs j b,ob= .cells cs->fD cs cur j b->(∀l,¬bK G w s.fr tm (μ++[s.lam]) l b)/\(∀lev i,b8 (bT (μ++[s.lam]) lev i)->G.β lev i≠b)/\ ∀j',fD cs cur j' b->j'=j):
 let G1:=G.setL L s.lam.length w.heap.size k s.pushed;let w1:=w.alloc (.cells cur e fz);let s1:S:={s with lam:=s.lam++[ob]}
 Rel G1 L s1 μ tm w1/\Le G w G1 w1/\
 (∀b,kb G1 w1 s1.fr tm (μ++[s1.lam]) b->kb G w s.fr tm (μ++[s.lam]) b\/b=w.heap.size\/ ∃cs j,ob= .cells cs/\fD cs cur j b)/\
 LVR G1 w1 L s1.lam.length (.loc s.lam.length 0) (.pointer (some ⟨w.heap.size,0,none⟩)):=by
 intro G1 w1 s1;have hβ: ∀lev i,lev<L\/(lev=L/\i<s.lam.length)->G1.β lev i=G.β lev i/\G1.sz lev i=G.sz lev i:=by intro lev i h;have: ¬(lev=L/\i=s.lam.length):=bu;simp only[G1,Gh.setL,this,du,nT]
 have hβn:G1.β L s.lam.length=w.heap.size/\G1.sz L s.lam.length=k:=by simp[G1,Gh.setL]
 have hO: ∀b,b≠w.heap.size->G1.O b=G.O b:=λb h=>by simp[G1,Gh.setL,h]
 have hOn:G1.O w.heap.size=0:=by simp[G1,Gh.setL]
 have hn: ∀lev,lev≠L->G1.n lev=G.n lev:=λlev h=>by simp[G1,Gh.setL,h]
 have hnL:G1.n L=if s.pushed then s.lam.length+1 else 0:=by have:=R.nL;cases hp:s.pushed<;>simp[G1,Gh.setL,hp,this]at this |-
 have hle:Le G w G1 w1:=by
  refine⟨λb es clk h hb=> ?_,λlev i h=> ?_,λb off v h hc=> ?_,λb cur' e' fz' h=> ?_⟩
  ·have hlt:b<w.heap.size:=nB hb;rw[hO b bu,jz w _ hlt];exact⟨h,hb⟩
  ·by_cases hl:lev=L
   ·subst hl;have:=R.nL;cases hp:s.pushed<;>simp only[hp,cQ,du,d6]at this
    ·omega
    ·have hb:=hβ lev i (.inr ⟨rfl,bu⟩);refine⟨?_,hb⟩;rw[hnL,hp,bC rfl];omega
   ·by_cases hlt:lev<L
    ·exact⟨by rw[hn lev hl];exact h,hβ lev i (.inl hlt)⟩
    ·have:=R.ngt lev bu;omega
  ·have hb:b<w.heap.size:=Ic hc;rw[hO b bu,qB hb];exact⟨h,hc⟩
  ·exact⟨cur',_,by rw[jz w _ (nB h)];exact h,rfl⟩
 have hT: ∀b,kb G w s.fr tm (μ++[s.lam]) b->w1.heap[b]? =w.heap[b]? /\G1.O b=G.O b:=λb hb=>by have:=R.touch_lt hb;exact⟨jz w _ this,hO b bu⟩
 have hlen:s1.lam.length=s.lam.length+1:=by simp[s1]
 have hnew:w1.heap[w.heap.size]? =some (.cells cur e fz):=lz w _;have hlive: ∀lev i,b8 (bT (μ++[s1.lam]) lev i)->(b8 (bT (μ++[s.lam]) lev i)/\bT (μ++[s1.lam]) lev i=bT (μ++[s.lam]) lev i/\G1.β lev i=G.β lev i/\(lev<L\/(lev=L/\i<s.lam.length)))\/(lev=L/\i=s.lam.length/\bT (μ++[s1.lam]) lev i=ob):=by
  intro lev i h;rcases fF (s:=s1) R.lev h with⟨h1,h2⟩|⟨rfl,h1,h2⟩
  ·have e:bT (μ++[s.lam]) lev i=ce μ lev i:=cV (by rw[R.lev];exact h1);rw[h2]at h |-;exact .inl ⟨by rw[e];exact h,e.symm,(hβ lev i (.inl h1)).1,.inl h1⟩
  ·rw[hlen]at h1;by_cases hi:i<s.lam.length
   ·have e:bT (μ++[s.lam]) lev i=bU s.lam i:=by rw[<-R.lev];exact db
    have e2:bU s1.lam i=bU s.lam i:=mX hi;rw[h2,e2]at h |-;exact .inl ⟨by rw[e];exact h,e.symm,(hβ lev i (.inr ⟨rfl,hi⟩)).1,.inr ⟨rfl,hi⟩⟩
   ·have:i=s.lam.length:=bu;subst this;rw[h2];exact .inr ⟨rfl,rfl,p4⟩
 have hownAt: ∀l b,bK G1 w1 s1.fr tm (μ++[s1.lam]) l b->bK G w s.fr tm (μ++[s.lam]) l b\/ ∃cs j,ob= .cells cs/\fD cs cur j b/\l= .ob L s.lam.length j:=by
  intro l b h;cases l with
  |fr t=>exact .inl h|ob lev i j=>
   simp only[bK]at h |-;split at h<;>try(exact h.elim)
   rename_i cs hcs;split at h<;>try(exact h.elim)
   rename_i x hx;obtain⟨cur',e',fz',hb,ho⟩:=h;have hl:b8 (bT (μ++[s1.lam]) lev i):=by rw[hcs];trivial
   rcases hlive lev i hl with⟨h1,h2,h3,h4⟩|⟨rfl,rfl,h2⟩
   ·left;rw[<-h2,hcs];simp only[hx];rw[h3]at hb;have:G.β lev i<w.heap.size:=R.touch_lt (.inr ⟨lev,i,h1,rfl⟩);rw[jz w _ this]at hb;exact⟨cur',e',fz',hb,ho⟩
   ·right;rw[h2]at hcs;rw[hβn.1,hnew]at hb;obtain⟨rfl,_⟩:=(kV ..).mp (iM hb);exact⟨cs,j,hcs,⟨x,hx,ho⟩,rfl⟩
 refine⟨⟨R.lev,λt=> ?_,λi=> ?_,λlev i hl=> ?_,λlev i lev' i' h h' e'=> ?_,λl l' b h h'=> ?_,λl b lev i h h' e'=> ?_,λlev hl=> ?_,?_,λlev hl=> ?_⟩,hle,λb hb=> ?_,?_⟩
 ·rw[hlen];exact ga hle (xL _) (λi hi=>hβ L i (.inr ⟨rfl,hi⟩)) _ _ (λb hb=>hT b (.inl ⟨.fr t,hb⟩)) (R.fr t)
 ·rw[hlen];by_cases hi:i<s.lam.length
  ·have e1:bT (μ++[s.lam]) L i=bU s.lam i:=by rw[<-R.lev];exact db
   have e2:bU s1.lam i=bU s.lam i:=mX hi;rw[e2,(hβ L i (.inr ⟨rfl,hi⟩)).1,(hβ L i (.inr ⟨rfl,hi⟩)).2];refine eS hle (xL _) (λi hi=>hβ L i (.inr ⟨rfl,hi⟩)) (λhl=>hT _ (.inr ⟨L,i,by rw[e1];exact hl,rfl⟩)) (λcs j x cur e fz ho hx hb b' hb'=>hT b' (.inl ⟨.ob L i j,?_⟩)) (R.lam i);simp only[bK,e1,ho,hx];exact⟨cur,e,fz,hb,hb'⟩
  ·by_cases hi':i=s.lam.length
   ·subst hi';have e2:bU s1.lam s.lam.length=ob:=p4;rw[e2,hβn.1,hβn.2];rcases hob with⟨cs,rfl,hc,hr⟩|⟨cs,rfl,hc,hr⟩
    ·simp only[ObR];refine⟨cur,e,fz,hnew,hfz,hOn,hc,λj x hx=> ?_⟩;refine ga hle (xL _) (λi hi=>hβ L i (.inr ⟨rfl,hi⟩)) _ _ (λb hb=> ?_) (hr j x hx);have hlt:b<w.heap.size:=pt (hr j x hx) hb;exact⟨jz w _ hlt,hO b bu⟩
    ·simp only[ObR];exact⟨trivial,cur,e,fz,hnew,hfz,hOn,hc,λj x hx=>de hle x _ (hr j x hx)⟩
   ·have e2:bU s1.lam i= .dead:=BG bu;rw[e2];trivial
 ·have e1:bT (μ++[s.lam]) lev i=ce μ lev i:=cV (by rw[R.lev];exact hl);rw[(hβ lev i (.inl hl)).1,(hβ lev i (.inl hl)).2];refine eS (hle.below lev) (ct _) (λi hi=>by omega) (λh=>hT _ (.inr ⟨lev,i,by rw[e1];exact h,rfl⟩)) (λcs j x cur e fz ho hx hb b' hb'=>hT b' (.inl ⟨.ob lev i j,?_⟩)) (R.mu lev i hl);simp only[bK,e1,ho,hx];exact⟨cur,e,fz,hb,hb'⟩
 ·rcases hlive lev i h with⟨h1,h2,h3,_⟩|⟨rfl,rfl,h2⟩<;>rcases hlive lev' i' h' with⟨h1',h2',h3',_⟩|⟨rfl,rfl,h2'⟩
  ·rw[h3,h3']at e';exact R.inj lev i lev' i' h1 h1' e'
  ·rw[h3,hβn.1]at e';have:=R.touch_lt (.inr ⟨lev,i,h1,rfl⟩);omega
  ·rw[h3',hβn.1]at e';have:=R.touch_lt (.inr ⟨lev',i',h1',rfl⟩);omega
  ·exact⟨rfl,rfl⟩
 ·rcases hownAt l b h with h1|⟨cs,j,h1,h2,rfl⟩<;>rcases hownAt l' b h' with h1'|⟨cs',j',h1',h2',rfl⟩
  ·exact R.own l l' b h1 h1'
  ·exact absurd h1 ((hown cs' j' b h1' h2').1 l)
  ·exact absurd h1' ((hown cs j b h1 h2).1 l')
  ·rw[h1]at h1';injection h1' with h1';subst h1';rw[(hown cs j b h1 h2).2.2 j' h2']
 ·rcases hlive lev i h' with⟨h2,h3,h4,_⟩|⟨rfl,rfl,h3⟩
  ·rw[h4]at e';rcases hownAt l b h with h1|⟨cs,j,h1,h1',rfl⟩
   ·exact R.apart l b lev i h1 h2 e'
   ·exact(hown cs j b h1 h1').2.1 lev i h2 e'
  ·rw[hβn.1]at e';rcases hownAt l b h with h1|⟨cs,j,h1,h1',rfl⟩
   ·have:=R.touch_lt (.inl ⟨l,h1⟩);omega
   ·rcases hob with⟨cs',e3,hc,hr⟩|⟨cs',e3,hc,hr⟩
    ·rw[h1]at e3;injection e3 with e3;subst e3;obtain⟨x,hx,ho⟩:=h1';have:=pt (hr j x hx) ho;omega
    ·rw[h1]at e3;cases e3
 ·rw[hn lev bu];exact R.nlt lev hl
 ·rw[hnL,hlen]
 ·rw[hn lev bu];exact R.ngt lev hl
 ·rcases hb with⟨l,hb⟩|⟨lev,i,hl,rfl⟩
  ·rcases hownAt l b hb with h1|⟨cs,j,h1,h2,rfl⟩
   ·exact .inl (.inl ⟨l,h1⟩)
   ·exact .inr (.inr ⟨cs,j,h1,h2⟩)
  ·rcases hlive lev i hl with⟨h1,h2,h3,_⟩|⟨rfl,rfl,h2⟩
   ·exact .inl (.inr ⟨lev,i,h1,h3.symm⟩)
   ·exact .inr (.inl hβn.1)
 ·simp only[LVR];exact⟨by rw[hlen];omega,by rw[hβn.1]⟩
def Rel.newMap {s:S}{μ:Mu}{tm:Array Value}(R:Rel G L s μ tm w):
 let G1:=G.setL L s.lam.length w.heap.size 0 s.pushed;let w1:=w.alloc (.map #[] 0);let s1:S:={s with lam:=s.lam++[.map [] []]}
 Rel G1 L s1 μ tm w1/\Le G w G1 w1/\
 (∀b,kb G1 w1 s1.fr tm (μ++[s1.lam]) b->kb G w s.fr tm (μ++[s.lam]) b\/b=w.heap.size)/\
 LVR G1 w1 L s1.lam.length (.mloc s.lam.length) (.map (some w.heap.size)):=by
 intro G1 w1 s1;have hβ: ∀lev i,lev<L\/(lev=L/\i<s.lam.length)->G1.β lev i=G.β lev i/\G1.sz lev i=G.sz lev i:=by intro lev i h;have: ¬(lev=L/\i=s.lam.length):=bu;simp only[G1,Gh.setL,this,du,nT]
 have hβn:G1.β L s.lam.length=w.heap.size/\G1.sz L s.lam.length=0:=by simp[G1,Gh.setL]
 have hO: ∀b,b≠w.heap.size->G1.O b=G.O b:=λb h=>by simp[G1,Gh.setL,h]
 have hOn:G1.O w.heap.size=0:=by simp[G1,Gh.setL]
 have hn: ∀lev,lev≠L->G1.n lev=G.n lev:=λlev h=>by simp[G1,Gh.setL,h]
 have hnL:G1.n L=if s.pushed then s.lam.length+1 else 0:=by have:=R.nL;cases hp:s.pushed<;>simp[G1,Gh.setL,hp,this]at this |-
 have hle:Le G w G1 w1:=by
  refine⟨λb es clk h hb=> ?_,λlev i h=> ?_,λb off v h hc=> ?_,λb cur' e' fz' h=> ?_⟩
  ·have hlt:b<w.heap.size:=nB hb;rw[hO b bu,jz w _ hlt];exact⟨h,hb⟩
  ·by_cases hl:lev=L
   ·subst hl;have:=R.nL;cases hp:s.pushed<;>simp only[hp,cQ,du,d6]at this
    ·omega
    ·have hb:=hβ lev i (.inr ⟨rfl,bu⟩);refine⟨?_,hb⟩;rw[hnL,hp,bC rfl];omega
   ·by_cases hlt:lev<L
    ·exact⟨by rw[hn lev hl];exact h,hβ lev i (.inl hlt)⟩
    ·have:=R.ngt lev bu;omega
  ·have hb:b<w.heap.size:=Ic hc;rw[hO b bu,qB hb];exact⟨h,hc⟩
  ·exact⟨cur',_,by rw[jz w _ (nB h)];exact h,rfl⟩
 have hT: ∀b,kb G w s.fr tm (μ++[s.lam]) b->w1.heap[b]? =w.heap[b]? /\G1.O b=G.O b:=λb hb=>by have:=R.touch_lt hb;exact⟨jz w _ this,hO b bu⟩
 have hlen:s1.lam.length=s.lam.length+1:=by simp[s1]
 have hnew:w1.heap[w.heap.size]? =some (.map #[] 0):=lz w _;have hlive: ∀lev i,b8 (bT (μ++[s1.lam]) lev i)->(b8 (bT (μ++[s.lam]) lev i)/\bT (μ++[s1.lam]) lev i=bT (μ++[s.lam]) lev i/\G1.β lev i=G.β lev i/\(lev<L\/(lev=L/\i<s.lam.length)))\/(lev=L/\i=s.lam.length/\bT (μ++[s1.lam]) lev i= .map [] []):=by
  intro lev i h;rcases fF (s:=s1) R.lev h with⟨h1,h2⟩|⟨rfl,h1,h2⟩
  ·have e:bT (μ++[s.lam]) lev i=ce μ lev i:=cV (by rw[R.lev];exact h1);rw[h2]at h |-;exact .inl ⟨by rw[e];exact h,e.symm,(hβ lev i (.inl h1)).1,.inl h1⟩
  ·rw[hlen]at h1;by_cases hi:i<s.lam.length
   ·have e:bT (μ++[s.lam]) lev i=bU s.lam i:=by rw[<-R.lev];exact db
    have e2:bU s1.lam i=bU s.lam i:=mX hi;rw[h2,e2]at h |-;exact .inl ⟨by rw[e];exact h,e.symm,(hβ lev i (.inr ⟨rfl,hi⟩)).1,.inr ⟨rfl,hi⟩⟩
   ·have:i=s.lam.length:=bu;subst this;rw[h2];exact .inr ⟨rfl,rfl,p4⟩
 have hownAt: ∀l b,bK G1 w1 s1.fr tm (μ++[s1.lam]) l b->bK G w s.fr tm (μ++[s.lam]) l b:=by
  intro l b h;cases l with
  |fr t=>exact h|ob lev i j=>
   simp only[bK]at h |-;split at h<;>try(exact h.elim)
   rename_i cs hcs;split at h<;>try(exact h.elim)
   rename_i x hx;obtain⟨cur',e',fz',hb,ho⟩:=h;have hl:b8 (bT (μ++[s1.lam]) lev i):=by rw[hcs];trivial
   rcases hlive lev i hl with⟨h1,h2,h3,h4⟩|⟨rfl,rfl,h2⟩
   ·rw[<-h2,hcs];simp only[hx];rw[h3]at hb;have:G.β lev i<w.heap.size:=R.touch_lt (.inr ⟨lev,i,h1,rfl⟩);rw[jz w _ this]at hb;exact⟨cur',e',fz',hb,ho⟩
   ·rw[h2]at hcs;cases hcs
 refine⟨⟨R.lev,λt=> ?_,λi=> ?_,λlev i hl=> ?_,λlev i lev' i' h h' e'=> ?_,λl l' b h h'=> ?_,λl b lev i h h' e'=> ?_,λlev hl=> ?_,?_,λlev hl=> ?_⟩,hle,λb hb=> ?_,?_⟩
 ·rw[hlen];exact ga hle (xL _) (λi hi=>hβ L i (.inr ⟨rfl,hi⟩)) _ _ (λb hb=>hT b (.inl ⟨.fr t,hb⟩)) (R.fr t)
 ·rw[hlen];by_cases hi:i<s.lam.length
  ·have e1:bT (μ++[s.lam]) L i=bU s.lam i:=by rw[<-R.lev];exact db
   have e2:bU s1.lam i=bU s.lam i:=mX hi;rw[e2,(hβ L i (.inr ⟨rfl,hi⟩)).1,(hβ L i (.inr ⟨rfl,hi⟩)).2];refine eS hle (xL _) (λi hi=>hβ L i (.inr ⟨rfl,hi⟩)) (λhl=>hT _ (.inr ⟨L,i,by rw[e1];exact hl,rfl⟩)) (λcs j x cur e fz ho hx hb b' hb'=>hT b' (.inl ⟨.ob L i j,?_⟩)) (R.lam i);simp only[bK,e1,ho,hx];exact⟨cur,e,fz,hb,hb'⟩
  ·by_cases hi':i=s.lam.length
   ·subst hi';have e2:bU s1.lam s.lam.length= .map [] []:=p4;rw[e2,hβn.1,hβn.2];simp only[ObR];exact⟨#[],0,hnew,hOn,rfl,by simp[VRL]⟩
   ·have e2:bU s1.lam i= .dead:=BG bu;rw[e2];trivial
 ·have e1:bT (μ++[s.lam]) lev i=ce μ lev i:=cV (by rw[R.lev];exact hl);rw[(hβ lev i (.inl hl)).1,(hβ lev i (.inl hl)).2];refine eS (hle.below lev) (ct _) (λi hi=>by omega) (λh=>hT _ (.inr ⟨lev,i,by rw[e1];exact h,rfl⟩)) (λcs j x cur e fz ho hx hb b' hb'=>hT b' (.inl ⟨.ob lev i j,?_⟩)) (R.mu lev i hl);simp only[bK,e1,ho,hx];exact⟨cur,e,fz,hb,hb'⟩
 ·rcases hlive lev i h with⟨h1,h2,h3,_⟩|⟨rfl,rfl,h2⟩<;>rcases hlive lev' i' h' with⟨h1',h2',h3',_⟩|⟨rfl,rfl,h2'⟩
  ·rw[h3,h3']at e';exact R.inj lev i lev' i' h1 h1' e'
  ·rw[h3,hβn.1]at e';have:=R.touch_lt (.inr ⟨lev,i,h1,rfl⟩);omega
  ·rw[h3',hβn.1]at e';have:=R.touch_lt (.inr ⟨lev',i',h1',rfl⟩);omega
  ·exact⟨rfl,rfl⟩
 ·exact R.own l l' b (hownAt l b h) (hownAt l' b h')
 ·rcases hlive lev i h' with⟨h2,h3,h4,_⟩|⟨rfl,rfl,h3⟩
  ·rw[h4]at e';exact R.apart l b lev i (hownAt l b h) h2 e'
  ·rw[hβn.1]at e';have:=R.touch_lt (.inl ⟨l,hownAt l b h⟩);omega
 ·rw[hn lev bu];exact R.nlt lev hl
 ·rw[hnL,hlen]
 ·rw[hn lev bu];exact R.ngt lev hl
 ·rcases hb with⟨l,hb⟩|⟨lev,i,hl,rfl⟩
  ·exact .inl (.inl ⟨l,hownAt l b hb⟩)
  ·rcases hlive lev i hl with⟨h1,h2,h3,_⟩|⟨rfl,rfl,h2⟩
   ·exact .inl (.inr ⟨lev,i,h1,h3.symm⟩)
   ·exact .inr hβn.1
 ·simp only[LVR];exact⟨by rw[hlen];omega,by rw[hβn.1]⟩
end
section
variable {G:Gh}{w:World}{L:Nat}{P:Program}
def qX (g o:Nat)(t:TypeId)(fz:Nat×Nat): ∀(vs:List Value) (i:Nat) (cur:Array Value) (w:World),w.heap[g]? =some (.cells cur t fz)->iQ cur fz->
 o+i+vs.length<=cur.size->(∀v∈vs,v.oneCell'=true)->(storeCells ⟨g,o,none⟩ vs i).run P w= .ok () (w.setRow g (d5 cur (o+i) vs))
 |[],i,cur,w,hg,_,_,_=>by simp only[storeCells,d5];rw[Dx w g cur t fz hg];rfl|v::rest,i,cur,w,hg,hu,hl,h1=>by
  have hi:o+i<cur.size:=by simp at hl;omega
  have hcell:w.cell? ⟨g,o+i,none⟩=some cur[o+i]:=by simp[World.cell?,hg,hi]
  have hfro:w.frozen? ⟨g,o+i,none⟩=false:=by have:=hu (o+i) hi;obtain⟨lo,hi'⟩:=fz;simp only[World.frozen?,hg];simp_all
  have hst:(store ((⟨g,o,none⟩:Addr).add i) v).run P w= .ok () (w.setRow g (cur.setIfInBounds (o+i) v)):=by rw[ij,run_store P w _ v _ (h1 v bE),hcell];simp[hfro,setCell_eq_setRow w g (o+i) cur t fz v hg]
  have ih:=qX g o t fz rest (i+1) (cur.setIfInBounds (o+i) v) (w.setRow g (cur.setIfInBounds (o+i) v)) (ra w g cur _ t _ hg) (λj hj=>hu j (by simpa using hj)) (by simp at hl |-; omega) (λx hx=>h1 x (by simp[hx]));simp only[storeCells,dk,hst,dq,ih,setRow_setRow,d5];rfl
def XE {b:Nat}{cur cur':Array Value}{e:TypeId}{fz:Nat×Nat}(hb:w.heap[b]? =some (.cells cur e fz))(hO:G.O b=0)(hs:cur'.size=cur.size):Le G w G (w.setRow b cur'):=by
 refine⟨λb' es clk h hb'=> ?_,λ_ _ h=>⟨h,rfl,rfl⟩,λb' off v h hc=> ?_,λb' cur2 e2 fz2 h=> ?_⟩
 ·have hne:b'≠b:=λe=>by subst e;omega
  exact⟨h,by rw[pi w b b' cur' hne];exact hb'⟩
 ·have hne:b'≠b:=λe=>by subst e;omega
  refine⟨h,?_⟩;rw[<-hc];simp only[World.cell?];rw[pi w b b' cur' hne]
 ·by_cases hne:b'=b
  ·subst hne;rw[hb]at h;obtain⟨rfl,rfl,rfl⟩:=(kV ..).mp (iM h);exact⟨cur',fz,ra w b' cur cur' e fz hb,hs⟩
  ·exact⟨cur2,fz2,by rw[pi w b b' cur' hne];exact h,rfl⟩
def zd {H:Mu}{lev i:Nat}{o:Ob}(h:b8 (ce H lev i))(l j:Nat):ce (cx H lev i o) l j=if l=lev/\j=i then o else ce H l j:=by
 unfold cx;cases hl:H[lev]? with
 |none=>simp only[ce,hl]at h;exact h.elim|some lam=>
  have hlt:lev<H.length:=(dP.1 hl).1;have hi:i<lam.length:=by
   simp only[ce,hl]at h;by_cases hi:i<lam.length
   ·exact hi
   ·rw[eB bu]at h;exact h.elim
  simp only[ce];grind
def lG {H:Mu}{lev i:Nat}{o:Ob}:(cx H lev i o).length=H.length/\ ∀l,((cx H lev i o).getD l []).length=(H.getD l []).length:=by
 unfold cx;cases hl:H[lev]? with|none=>exact⟨rfl,λ_=>rfl⟩|some lam=>grind
def Rel.setOb {s s1:S}{μ μ1:Mu}{tm:Array Value}(R:Rel G L s μ tm w){lev i:Nat}{o':Ob}(hl:b8 (bT (μ++[s.lam]) lev i)){cur cur':Array Value}{e:TypeId}{fz:Nat×Nat}
 (hb:w.heap[G.β lev i]? =some (.cells cur e fz)) (hs:cur'.size=cur.size)
 (hfr:s1.fr=s.fr) (hp:s1.pushed=s.pushed) (hlen:s1.lam.length=s.lam.length) (hμlen:μ1.length=μ.length) (hH:μ1++[s1.lam]=cx (μ++[s.lam]) lev i o')
 (hob: ∀G' w',Le G w G' w'->G'=G->w'=w.setRow (G.β lev i) cur'->(lev=L->ObR G' w' L s.lam.length (G.β lev i) (G.sz lev i) o')/\(lev<L->ObR (G'.below lev) w' lev 0 (G.β lev i) (G.sz lev i) o'))
 (hown : ∀ cs' k b, o' = .cells cs' -> fD cs' cur' k b -> bK G w s.fr tm (μ ++ [s.lam]) (.ob lev i k) b \/
  ((∀l,¬bK G w s.fr tm (μ++[s.lam]) l b)/\(∀lev i,b8 (bT (μ++[s.lam]) lev i)->G.β lev i≠b)/\ ∀k',fD cs' cur' k' b->k'=k)):
 Rel G L s1 μ1 tm (w.setRow (G.β lev i) cur')/\Le G w G (w.setRow (G.β lev i) cur')/\
 (∀b,kb G (w.setRow (G.β lev i) cur') s1.fr tm (μ1++[s1.lam]) b->kb G w s.fr tm (μ++[s.lam]) b\/ ∃cs' k,o'= .cells cs'/\fD cs' cur' k b)/\
 (∀l b,bK G (w.setRow (G.β lev i) cur') s1.fr tm (μ1++[s1.lam]) l b->bK G w s.fr tm (μ++[s.lam]) l b\/ ∃cs' k,o'= .cells cs'/\fD cs' cur' k b/\l= .ob lev i k)/\
 (∀k b,bK G (w.setRow (G.β lev i) cur') s1.fr tm (μ1++[s1.lam]) (.ob lev i k) b-> ∃cs',o'= .cells cs'/\fD cs' cur' k b)/\
 (∀l j,b8 (bT (μ1++[s1.lam]) l j)->b8 (bT (μ++[s.lam]) l j)):=by
 have hO:G.O (G.β lev i)=0:=by
  rcases fF R.lev hl with⟨h1,h2⟩|⟨rfl,h1,h2⟩
  ·have:=R.mu lev i h1;rw[<-h2]at this;revert this hl;cases bT (μ++[s.lam]) lev i with
   |dead=>intro h;exact h.elim|cells cs=>intro _ h;simp only[ObR]at h;obtain⟨_,_,_,_,_,h,_⟩:=h;exact h
   |arr k cs=>intro _ h;simp only[ObR]at h;obtain⟨_,_,_,_,_,_,h,_⟩:=h;exact h
   |map ks vs=>intro _ h;simp only[ObR]at h;obtain⟨_,_,_,h,_⟩:=h;exact h
  ·have:=R.lam i;rw[<-h2]at this;revert this hl;cases bT (μ++[s.lam]) lev i with
   |dead=>intro h;exact h.elim|cells cs=>intro _ h;simp only[ObR]at h;obtain⟨_,_,_,_,_,h,_⟩:=h;exact h
   |arr k cs=>intro _ h;simp only[ObR]at h;obtain⟨_,_,_,_,_,_,h,_⟩:=h;exact h
   |map ks vs=>intro _ h;simp only[ObR]at h;obtain⟨_,_,_,h,_⟩:=h;exact h
 have hle:=XE (G:=G) hb hO hs;have hset:=zd (o:=o') hl;have hAt: ∀l j,bT (μ1++[s1.lam]) l j=if l=lev/\j=i then o' else bT (μ++[s.lam]) l j:=λl j=>by rw[bT,hH];exact hset l j
 have hlvl:lev<=L:=by rcases fF R.lev hl with⟨h1,_⟩|⟨h1,_⟩<;>omega
 have hblk: ∀b,b≠G.β lev i->(w.setRow (G.β lev i) cur').heap[b]? =w.heap[b]? :=λb h=>pi w _ b cur' h;have hlive: ∀l j,b8 (bT (μ1++[s1.lam]) l j)->b8 (bT (μ++[s.lam]) l j):=by grind
 have hne: ∀l j,b8 (bT (μ++[s.lam]) l j)-> ¬(l=lev/\j=i)->G.β l j≠G.β lev i:=λl j h hn e=>hn (R.inj l j lev i h hl e);have hownAt: ∀l b,bK G (w.setRow (G.β lev i) cur') s1.fr tm (μ1++[s1.lam]) l b->(bK G w s.fr tm (μ++[s.lam]) l b)\/
  ∃cs' k,o'= .cells cs'/\fD cs' cur' k b/\l= .ob lev i k/\((∀l,¬bK G w s.fr tm (μ++[s.lam]) l b)/\(∀lev i,b8 (bT (μ++[s.lam]) lev i)->G.β lev i≠b)/\ ∀k',fD cs' cur' k' b->k'=k):=by
  intro l b h;cases l with
  |fr t=>rw[hfr]at h;exact .inl h|ob l j k=>
   simp only[bK]at h;split at h<;>try(exact h.elim)
   rename_i cs hcs;split at h<;>try(exact h.elim)
   rename_i x hx;obtain⟨cur2,e2,fz2,hb2,ho⟩:=h;rw[hAt]at hcs;split at hcs
   ·rename_i e;obtain⟨rfl,rfl⟩:=e;rw[ra w _ cur cur' e fz hb]at hb2;obtain⟨rfl,_⟩:=(kV ..).mp (iM hb2);rcases hown cs k b hcs ⟨x,hx,ho⟩with h|h
    ·exact .inl h
    ·exact .inr ⟨cs,k,hcs,⟨x,hx,ho⟩,rfl,h⟩
   ·rename_i e;have hl2:b8 (bT (μ++[s.lam]) l j):=by rw[hcs];trivial
    rw[hblk _ (hne l j hl2 e)]at hb2;left;simp only[bK,hcs,hx];exact⟨cur2,e2,fz2,hb2,ho⟩
 have hownBlk: ∀l b,bK G w s.fr tm (μ++[s.lam]) l b->(w.setRow (G.β lev i) cur').heap[b]? =w.heap[b]? /\G.O b=G.O b:=λl b h=>⟨hblk b λe=>R.apart l b lev i h hl e.symm,rfl⟩;refine⟨⟨by rw[hμlen];exact R.lev,λt=> ?_,λj=> ?_,λl j hlt=> ?_,λl j l' j' h h' e'=>R.inj l j l' j' (hlive l j h) (hlive l' j' h') e',λl l' b h h'=> ?_,λl b l' j h h' e'=> ?_,λl hlt=> ?_,?_,R.ngt⟩,hle,λb hb=> ?_,λl b h=>(hownAt l b h).imp id λ⟨cs,k,h1,h2,h3,_⟩=>⟨cs,k,h1,h2,h3⟩,λk b h=> ?_,hlive⟩
 ·rw[hfr,hlen];exact ga hle (ct _) (λ_ _=>⟨rfl,rfl⟩) _ _ (λb hb=>hownBlk (.fr t) b hb) (R.fr t)
 ·rw[hlen];have e1:bT (μ1++[s1.lam]) L j=bU s1.lam j:=by rw[<-R.lev,<-hμlen];exact db
  have e2:bT (μ++[s.lam]) L j=bU s.lam j:=by rw[<-R.lev];exact db
  rw[<-e1,hAt];split
  ·rename_i e;obtain⟨rfl,rfl⟩:=e;exact(hob G _ hle rfl rfl).1 rfl
  ·rename_i e;rw[e2];refine eS hle (ct _) (λ_ _=>⟨rfl,rfl⟩) (λh=>⟨hblk _ (hne L j (by rw[e2];exact h) e),rfl⟩) (λcs k x cur e fz ho hx hb b' hb'=>hownBlk (.ob L j k) b' ?_) (R.lam j);simp only[bK,e2,ho,hx];exact⟨cur,e,fz,hb,hb'⟩
 ·have e1:bT (μ1++[s1.lam]) l j=ce μ1 l j:=cV (by rw[hμlen,R.lev];exact hlt);have e2:bT (μ++[s.lam]) l j=ce μ l j:=cV (by rw[R.lev];exact hlt);rw[<-e1,hAt];split
  ·rename_i e;obtain⟨rfl,rfl⟩:=e;exact(hob G _ hle rfl rfl).2 hlt
  ·rename_i e;rw[e2];refine eS (hle.below l) (ct _) (λ_ h=>by omega) (λh=>⟨hblk _ (hne l j (by rw[e2];exact h) e),rfl⟩) (λcs k x cur e fz ho hx hb b' hb'=>hownBlk (.ob l j k) b' ?_) (R.mu l j hlt);simp only[bK,e2,ho,hx];exact⟨cur,e,fz,hb,hb'⟩
 ·rcases hownAt l b h with h1|⟨cs,k,h1,h2,rfl,h3⟩<;>rcases hownAt l' b h' with h1'|⟨cs',k',h1',h2',rfl,h3'⟩
  ·exact R.own l l' b h1 h1'
  ·exact absurd h1 (h3'.1 l)
  ·exact absurd h1' (h3.1 l')
  ·rw[h1]at h1';injection h1' with h1';subst h1';rw[h3.2.2 k' h2']
 ·rcases hownAt l b h with h1|⟨cs,k,h1,h2,rfl,h3⟩
  ·exact R.apart l b l' j h1 (hlive l' j h') e'
  ·exact h3.2.1 l' j (hlive l' j h') e'
 ·have h1:(μ1.getD l []).length=(μ.getD l []).length:=by
   have:=(lG (H:=μ++[s.lam]) (lev:=lev) (i:=i) (o:=o')).2 l;rw[<-hH]at this;have a1:l<μ1.length:=by rw[hμlen,R.lev];exact hlt
   have a2:l<μ.length:=by rw[R.lev];exact hlt
   simp only[gi,gK a1,gK a2]at this |-;exact this
  rw[h1];exact R.nlt l hlt
 ·rw[hp,hlen];exact R.nL
 ·rcases hb with⟨l,hb⟩|⟨l,j,h,rfl⟩
  ·rcases hownAt l b hb with h1|⟨cs,k,h1,h2,_⟩
   ·exact .inl (.inl ⟨l,h1⟩)
   ·exact .inr ⟨cs,k,h1,h2⟩
  ·exact .inl (.inr ⟨l,j,hlive l j h,rfl⟩)
 ·simp only[bK]at h;split at h<;>try(exact h.elim)
  rename_i cs hcs;split at h<;>try(exact h.elim)
  rename_i x hx;obtain⟨cur2,e2,fz2,hb2,ho⟩:=h;rw[hAt,bC ⟨rfl,rfl⟩]at hcs;rw[ra w _ cur cur' e fz hb]at hb2;obtain⟨rfl,_⟩:=(kV ..).mp (iM hb2);exact⟨cs,hcs,x,hx,ho⟩
def afy {s:S}{μ:Mu}{tm:Array Value}(R:Rel G L s μ tm w){lev i:Nat}{cs:List LV}(h:bT (μ++[s.lam]) lev i= .cells cs):
 ∃cur e fz,w.heap[G.β lev i]? =some (.cells cur e fz)/\iQ cur fz/\cs.length<=cur.size/\
  ((lev = L /\ i < s.lam.length /\ bU s.lam i = .cells cs /\ ∀ j x, cs[j]? = some x -> LVR G w L s.lam.length x (cur.getD j undef)) \/
   (lev<L/\ce μ lev i= .cells cs/\ ∀j x,cs[j]? =some x->LVR (G.below lev) w lev 0 x (cur.getD j undef))):=by
 have hl:b8 (bT (μ++[s.lam]) lev i):=by rw[h];trivial
 rcases fF R.lev hl with⟨h1,h2⟩|⟨rfl,h1,h2⟩
 ·rw[h]at h2;have:=R.mu lev i h1;rw[<-h2]at this;simp only[ObR]at this;grind
 ·rw[h]at h2;have:=R.lam i;rw[<-h2]at this;simp only[ObR]at this;grind
def Rel.takeOb {s s1:S}{μ μ1:Mu}{tm:Array Value}(R:Rel G L s μ tm w){lev i off:Nat}{cs:List LV}{x:LV}(hob:bT (μ++[s.lam]) lev i= .cells cs)(hx:cs[off]? =some x)
 (hfr:s1.fr=s.fr) (hp:s1.pushed=s.pushed) (hlen:s1.lam.length=s.lam.length) (hμlen:μ1.length=μ.length) (hH:μ1++[s1.lam]=cx (μ++[s.lam]) lev i (.cells (cs.set off (strip x)))):
 ∃cur e fz,w.heap[G.β lev i]? =some (.cells cur e fz)/\off<cur.size/\Rel G L s1 μ1 tm w/\
  (∀b,kb G w s1.fr tm (μ1++[s1.lam]) b->kb G w s.fr tm (μ++[s.lam]) b)/\
  ((lev=L/\LVR G w L s.lam.length x (cur.getD off undef))\/(lev<L/\LVR (G.below lev) w lev 0 x (cur.getD off undef)))/\
  (∀b,b6 x (cur.getD off undef) b->(∀l,¬bK G w s1.fr tm (μ1++[s1.lam]) l b)/\(∀l j,b8 (bT (μ1++[s1.lam]) l j)->G.β l j≠b)/\kb G w s.fr tm (μ++[s.lam]) b):=by
 obtain⟨cur,e,fz,hb,hu,hsz,hcase⟩:=afy R hob;have hoff:off<cs.length:=(dP.1 hx).1;have hl:b8 (bT (μ++[s.lam]) lev i):=by rw[hob];trivial
 have hown0: ∀k b,fD (cs.set off (strip x)) cur k b->k≠off/\bK G w s.fr tm (μ++[s.lam]) (.ob lev i k) b:=by
  intro k b ⟨y,hy,ho⟩;by_cases hk:k=off
  ·subst hk;rw[uY hoff]at hy;simp only[bP]at hy;subst hy;exact absurd ho ng
  ·rw[xz bu]at hy;refine⟨hk,?_⟩;simp only[bK,hob,hy];simp_all
 obtain⟨R1,_,hT,hO1,hO2,hlv⟩:=R.setOb (s1:=s1) (μ1:=μ1) (o':= .cells (cs.set off (strip x))) hl hb (cur':=cur) rfl hfr hp hlen hμlen hH
  (λG' w' hle hG hw => by
   subst hG;rw[Dx w _ cur e fz hb]at hw;subst hw;refine⟨λhL=> ?_,λhL=> ?_⟩
   ·rcases hcase with⟨_,_,h2,h3⟩|⟨h1,_⟩
    ·have:=R.lam i;rw[h2]at this;simp only[ObR]at this |-;obtain⟨cur',e',fz',hb',hu',hO',hs',hr'⟩:=this;rw[hL];refine⟨cur',e',fz',hb',hu',hO',by simpa using hs',λj y hy=> ?_⟩;by_cases hj:j=off
     ·subst hj;rw[uY hoff]at hy;simp only[bP]at hy;subst hy;exact oM (hr' j x hx)
     ·rw[xz bu]at hy;exact hr' j y hy
    ·omega
   ·rcases hcase with⟨h1,_⟩|⟨_,h2,h3⟩
    ·omega
    ·have:=R.mu lev i hL;rw[h2]at this;simp only[ObR]at this |-;obtain⟨cur',e',fz',hb',hu',hO',hs',hr'⟩:=this;refine⟨cur',e',fz',hb',hu',hO',by simpa using hs',λj y hy=> ?_⟩;by_cases hj:j=off
     ·subst hj;rw[uY hoff]at hy;simp only[bP]at hy;subst hy;exact oM (hr' j x hx)
     ·rw[xz bu]at hy
      exact hr' j y hy)
  (λcs' k b he ho => by
   injection he with he;subst he
   exact .inl (hown0 k b ho).2)
 rw[Dx w _ cur e fz hb]at R1 hT hO1 hO2;refine⟨cur,e,fz,hb,bu,R1,λb hb=> ?_,?_,λb ho=> ?_⟩
 ·rcases hT b hb with h|⟨cs',k,he,ho⟩
  ·exact h
  ·injection he with he;subst he;exact .inl ⟨_,(hown0 k b ho).2⟩
 ·rcases hcase with⟨h1,_,_,h3⟩|⟨h1,_,h3⟩
  ·exact .inl ⟨h1,h3 off x hx⟩
  ·exact .inr ⟨h1,h3 off x hx⟩
 ·have hown:bK G w s.fr tm (μ++[s.lam]) (.ob lev i off) b:=by simp only[bK,hob,hx];exact⟨cur,e,fz,hb,ho⟩
  refine⟨λl h=> ?_,λl j h=>R.apart _ b l j hown (hlv l j h),.inl ⟨_,hown⟩⟩;have hold:bK G w s.fr tm (μ++[s.lam]) l b:=by
   rcases hO1 l b h with h|⟨cs',k,he,ho',rfl⟩
   ·exact h
   ·injection he with he;subst he;exact(hown0 k b ho').2
  have hl:=R.own l _ b hold hown;subst hl;obtain⟨cs',he,ho'⟩:=hO2 off b h;injection he with he;subst he;exact(hown0 off b ho').1 rfl
end
section
variable {G:Gh}{w:World}{L:Nat}{P:Program}
def Cu: ∀{cs:List LV} {l:List CV},oE cs=some l->l.length=cs.length/\ ∀(j:Nat) c,l[j]? =some c-> ∃x,cs[j]? =some x/\cW x=some c
 |[],l,h=>by simp only[oE,bP]at h;subst h;exact⟨rfl,λj c hc=>by simp at hc⟩|x::r,l,h=>by simp only[oE]at h;obtain⟨c,h1,h2⟩:=bA.1 h;obtain⟨l',h3,h4⟩:=bA.1 h2;simp only[bP]at h4;subst h4;obtain⟨e,hg⟩:=Cu h3;grind
def CL_of {b:Nat}: ∀{cs:List CV} {off:Nat},(∀(j:Nat) c,cs[j]? =some c-> ∃v,w.cell? ⟨b,off+j,none⟩=some v/\off+j<G.O b/\VR G w c v)->CL G w b off cs
 |[],off,_=>by simp[CL]|c::r,off,h=>by simp only[CL];refine⟨by simpa using h 0 c rfl,CL_of λj c' hc=> ?_⟩;have:=h (j+1) c' (by simpa using hc);grind
def sb {l:Lam}{i:Nat}{o:Ob}(h:i<l.length)(j:Nat):bU (l.set i o) j=if j=i then o else bU l j:=by simp only[bU];grind
def cell_of_heap {b j:Nat}{cur:Array Value}{e:TypeId}{fz:Nat×Nat}(h:w.heap[b]? =some (.cells cur e fz))(hj:j<cur.size):w.cell? ⟨b,j,none⟩=some (cur.getD j undef):=by rw[cell_of_row w b j cur e fz h];simp_all
def Rel.freezeOb {s:S}{μ:Mu}{tm:Array Value}(R:Rel G L s μ tm w){i t n:Nat}{x:LV}(hl:b8 (bU s.lam i))
 (hx:Le G w (G.setO (G.β L i) n) w->LVR (G.setO (G.β L i) n) w L s.lam.length x (tm.getD t undef)) (hno: ∀b,¬b6 x (tm.getD t undef) b):
 let G':=G.setO (G.β L i) n;let s':S:={s with fr:=upd s.fr t x,lam:=s.lam.set i .dead}
 Rel G' L s' μ tm w/\Ext L (bM G w s μ tm) G w G' w (bM G' w s' μ tm):=by
 intro G' s';have hi:=lO hl;have e0: ∀j,bT (μ++[s.lam]) L j=bU s.lam j:=λj=>by rw[<-R.lev];exact db
 have e1: ∀j,bT (μ++[s'.lam]) L j=bU s'.lam j:=λj=>by rw[<-R.lev];exact db
 have hl':b8 (bT (μ++[s.lam]) L i):=by rw[e0];exact hl
 have hOb:G.O (G.β L i)=0:=by
  have:=R.lam i;revert this hl;cases bU s.lam i with
  |dead=>intro h;exact h.elim|cells cs=>intro _ h;simp only[ObR]at h;obtain⟨_,_,_,_,_,h,_⟩:=h;exact h
  |arr k cs=>intro _ h;simp only[ObR]at h;obtain⟨_,_,_,_,_,_,h,_⟩:=h;exact h
  |map ks vs=>intro _ h;simp only[ObR]at h;obtain⟨_,_,_,h,_⟩:=h;exact h
 have hle:Le G w G' w:=by
  refine⟨λb es clk h hb=>⟨?_,hb⟩,λ_ _ h=>⟨h,rfl,rfl⟩,λb off v h hc=>⟨?_,hc⟩,λb cur e fz h=>⟨cur,fz,h,rfl⟩⟩
  ·by_cases hbb:b=G.β L i
   ·subst hbb;omega
   ·rw[eh hbb];exact h
  by_cases hbb:b=G.β L i
  ·subst hbb;omega
  ·rw[eh hbb];exact h
 have hset: ∀j,bU s'.lam j=if j=i then .dead else bU s.lam j:=λj=>sb hi j;have hlen:s'.lam.length=s.lam.length:=by simp[s']
 have hlive: ∀l j,b8 (bT (μ++[s'.lam]) l j)->b8 (bT (μ++[s.lam]) l j)/\bT (μ++[s'.lam]) l j=bT (μ++[s.lam]) l j/\ ¬(l=L/\j=i):=by
  intro l j h;rcases fF (s:=s') R.lev h with⟨h1,h2⟩|⟨rfl,h1,h2⟩
  ·have:bT (μ++[s.lam]) l j=ce μ l j:=cV (by rw[R.lev];exact h1);rw[h2]at h |-;exact⟨by rw[this];exact h,this.symm,bu⟩
  ·rw[h2,hset]at h;rw[h2,hset,e0];split at h
   ·exact h.elim
   ·rename_i hj;rw[bB hj];exact⟨h,rfl,by simpa using hj⟩
 have hO: ∀l j,b8 (bT (μ++[s.lam]) l j)-> ¬(l=L/\j=i)->G'.O (G.β l j)=G.O (G.β l j):=λl j h hn=>eh λe=>hn (R.inj l j L i h hl' e);have hOo: ∀l b,bK G w s.fr tm (μ++[s.lam]) l b->G'.O b=G.O b:=λl b h=>eh λe=>R.apart l b L i h hl' e.symm;have hownAt: ∀l b,bK G' w s'.fr tm (μ++[s'.lam]) l b->bK G w s.fr tm (μ++[s.lam]) l b:=by
  intro l b h;cases l with
  |fr u=>
   simp only[bK,s']at h |-;by_cases hu:u=t
   ·subst hu;rw[j6]at h;exact absurd h (hno b)
   ·rw[jo _ _ hu]at h;exact h
  |ob l j k=>
   simp only[bK]at h |-;split at h<;>try(exact h.elim)
   rename_i cs hcs;obtain⟨_,h2,_⟩:=hlive l j (by rw[hcs];trivial);rw[<-h2,hcs];exact h
 refine⟨⟨R.lev,λu=> ?_,λj=> ?_,λl j hlt=> ?_,λl j l' j' h h' e'=>R.inj l j l' j' (hlive l j h).1 (hlive l' j' h').1 e',λl l' b h h'=>R.own l l' b (hownAt l b h) (hownAt l' b h'),λl b l' j h h' e'=>R.apart l b l' j (hownAt l b h) (hlive l' j h').1 e',R.nlt,?_,R.ngt⟩,?_⟩
 ·rw[hlen];by_cases hu:u=t
  ·subst hu;simp only[s',j6];exact hx hle
  ·simp only[s',jo _ _ hu];exact ga hle (ct _) (λ_ _=>⟨rfl,rfl⟩) _ _ (λb hb=>⟨rfl,hOo (.fr u) b hb⟩) (R.fr u)
 ·rw[hlen,hset];split
  ·trivial
  ·rename_i hj;refine eS hle (ct _) (λ_ _=>⟨rfl,rfl⟩) (λh=>⟨rfl,hO L j (by rw[e0];exact h) (by simpa using hj)⟩) (λcs k x cur e fz ho hx hb b' hb'=>⟨rfl,hOo (.ob L j k) b' ?_⟩) (R.lam j);simp only[bK,e0,ho,hx];exact⟨cur,e,fz,hb,hb'⟩
 ·have e2:bT (μ++[s.lam]) l j=ce μ l j:=cV (by rw[R.lev];exact hlt);refine eS (hle.below l) (ct _) (λ_ h=>by omega) (λh=>⟨rfl,hO l j (by rw[e2];exact h) bu⟩) (λcs k x cur e fz ho hx hb b' hb'=>⟨rfl,hOo (.ob l j k) b' ?_⟩) (R.mu l j hlt);simp only[bK,e2,ho,hx];exact⟨cur,e,fz,hb,hb'⟩
 ·rw[hlen];exact R.nL
 ·refine⟨hle,rfl,rfl,rfl,ct _,λb hb hn=>⟨rfl,eh λe=>hn (.inr ⟨L,i,hl',e.symm⟩)⟩,λb hb=> .inl ?_,λ_ _=>⟨λ_=>⟨rfl,rfl⟩,rfl⟩⟩;rcases hb with⟨l,hb⟩|⟨l,j,h,rfl⟩
  ·exact .inl ⟨l,hownAt l b hb⟩
  ·exact .inr ⟨l,j,(hlive l j h).1,rfl⟩
def Rel.freezeFr {s:S}{μ:Mu}{tm:Array Value}{t b n:Nat}{x:LV}(R:Rel G L s μ tm w)(hb:(b6 (s.fr t) (tm.getD t undef) b/\G.O b=0)\/n=G.O b)
 (hx:Le G w (G.setO b n) w->LVR (G.setO b n) w L s.lam.length x (tm.getD t undef)) (hno: ∀b',¬b6 x (tm.getD t undef) b'):
 Rel (G.setO b n) L {s with fr:=upd s.fr t x} μ tm w/\Ext L (bM G w s μ tm) G w (G.setO b n) w (bM (G.setO b n) w {s with fr:=upd s.fr t x} μ tm):=by
 have e0: ∀j,bT (μ++[s.lam]) L j=bU s.lam j:=λj=>by rw[<-R.lev];exact db
 have hset:n=G.O b-> ∀b',(G.setO b n).O b'=G.O b':=λh b'=>by
  by_cases hbb:b'=b
  ·subst hbb;rw[fS,h]
  ·exact eh hbb
 have hle:Le G w (G.setO b n) w:=by
  refine⟨λb1 es clk h hb1=>⟨?_,hb1⟩,λ_ _ h=>⟨h,rfl,rfl⟩,λb1 off v h hc=>⟨?_,hc⟩,λb1 cur e fz h=>⟨cur,fz,h,rfl⟩⟩
  ·by_cases hbb:b1=b
   ·grind
   ·rw[eh hbb];exact h
  by_cases hbb:b1=b
  ·grind
  ·rw[eh hbb];exact h
 have hO: ∀l j,b8 (bT (μ++[s.lam]) l j)->(G.setO b n).O (G.β l j)=G.O (G.β l j):=λl j h=>hb.elim (λhb=>eh (R.apart (.fr t) b l j hb.1 h)) λhb=>hset hb _;have hOo: ∀l b',l≠ .fr t->bK G w s.fr tm (μ++[s.lam]) l b'->(G.setO b n).O b'=G.O b':=λl b' hl h=>hb.elim (λhb=>eh λe=>by subst e;exact hl (R.own l (.fr t) b' h hb.1)) λhb=>hset hb _;have hownAt: ∀l b',bK (G.setO b n) w (upd s.fr t x) tm (μ++[s.lam]) l b'->bK G w s.fr tm (μ++[s.lam]) l b':=by
  intro l b' h;cases l with
  |fr u=>
   simp only[bK]at h |-;by_cases hu:u=t
   ·subst hu;rw[j6]at h;exact absurd h (hno b')
   ·rw[jo _ _ hu]at h;exact h
  |ob l j k=>exact h
 refine⟨⟨R.lev,λu=> ?_,λj=> ?_,λl j hlt=> ?_,R.inj,λl l' b' h h'=>R.own l l' b' (hownAt l b' h) (hownAt l' b' h'),λl b' l' j h h' e'=>R.apart l b' l' j (hownAt l b' h) h' e',R.nlt,R.nL,R.ngt⟩,?_⟩
 ·by_cases hu:u=t
  ·subst hu;simp only[j6];exact hx hle
  ·simp only[jo _ _ hu];exact ga hle (ct _) (λ_ _=>⟨rfl,rfl⟩) _ _ (λb' hb'=>⟨rfl,hOo (.fr u) b' (by simpa using hu) hb'⟩) (R.fr u)
 ·refine eS hle (ct _) (λ_ _=>⟨rfl,rfl⟩) (λh=>⟨rfl,hO L j (by rw[e0];exact h)⟩) (λcs k x cur e fz ho hx hb1 b' hb'=>⟨rfl,hOo (.ob L j k) b' bE ?_⟩) (R.lam j);simp only[bK,e0,ho,hx];exact⟨cur,e,fz,hb1,hb'⟩
 ·have e2:bT (μ++[s.lam]) l j=ce μ l j:=cV (by rw[R.lev];exact hlt);refine eS (hle.below l) (ct _) (λ_ h=>by omega) (λh=>⟨rfl,hO l j (by rw[e2];exact h)⟩) (λcs k x cur e fz ho hx hb1 b' hb'=>⟨rfl,hOo (.ob l j k) b' bE ?_⟩) (R.mu l j hlt);simp only[bK,e2,ho,hx];exact⟨cur,e,fz,hb1,hb'⟩
 ·refine⟨hle,rfl,rfl,rfl,ct _,λb' hb1 hn=>⟨rfl,hb.elim (λhb=>eh λe=>hn (.inl ⟨.fr t,by subst e;exact hb.1⟩)) λhb=>hset hb _⟩,λb' hb1=> .inl ?_,λ_ _=>⟨λ_=>⟨rfl,rfl⟩,rfl⟩⟩;rcases hb1 with⟨l,hb1⟩|⟨l,j,h,rfl⟩
  ·exact .inl ⟨l,hownAt l b' hb1⟩
  ·exact .inr ⟨l,j,h,rfl⟩
def K8 {b n:Nat}{cur:Array Value}{e:TypeId}{fz:Nat×Nat}(hb:w.heap[b]? =some (.cells cur e fz))(hO:G.O b=n)(hn:n<=cur.size): ∀(off:Nat) (xs:List Value),off+xs.length<=n->
 (∀(j:Nat) x,xs[j]? =some x->cur.getD (off+j) undef=x)->EL G w b 1 off (xs.map .v)
 |off,[],_,_=>by simp[EL]|off,x::r,hl,h=>by simp only[dz]at hl;simp only[dr,EL,VR];refine⟨⟨cur.getD off undef,cell_of_heap hb bu,bu,by simpa using h 0 x rfl⟩,K8 hb hO hn (off+1) r bu λj y hy=> ?_⟩;have:=h (j+1) y (by simpa using hy);grind
def Kw {t:Nat}{s s':S}{μ:Mu}{tm:Array Value}(h:Io t s=some s')(R:Rel G L s μ tm w):
 ∃G',Rel G' L s' μ tm w/\Ext L (bM G w s μ tm) G w G' w (bM G' w s' μ tm):=by
 unfold Io at h;split at h
 rotate_left
 ·rename_i i hfr;split at h<;>try(simp at h;done)
  rename_i ks vs hob';simp only[bP]at h;subst h;have hob:=R.lam i;rw[hob']at hob;simp only[ObR]at hob;obtain⟨es,clk,hb,hO,hk,hr⟩:=hob;have hv:=R.fr t;rw[hfr]at hv;simp only[LVR]at hv;refine⟨_,R.freezeOb (n:=1) (by rw[hob'];trivial) (λhle=> ?_) (λb hb=>by simp[b6]at hb)⟩;rw[hv.2];simp only[LVR,VR];exact⟨_,es,clk,rfl,hb,by rw[fS];omega,hk,lM hle vs _ hr⟩
 ·rename_i xs hfr;simp only[bP]at h;subst h;have hv:=R.fr t;rw[hfr]at hv;simp only[LVR]at hv;rcases hv with⟨h1,h2⟩|⟨b,cap,cur,e,hv,hb,h1,h2,h3,h4,h5⟩
  ·subst h1;refine⟨_,R.freezeFr (n:=G.O 0) (b:=0) (.inr rfl) (λhle=> ?_) (λb hb=>by simp[b6]at hb)⟩;rw[h2];simp only[LVR];exact XI
  refine⟨_,R.freezeFr (n:=xs.length) (b:=b) (.inl ⟨by rw[hfr,hv];simp[b6],h4⟩) (λhle=> ?_) (λb hb=>by simp[b6]at hb)⟩;rw[hv];simp only[LVR,VR];refine⟨_,_,_,rfl,bE,h1,.inr ⟨b,0,1,rfl,λx hx=> ?_,K8 hb (fS ..) bu 0 xs bu (λj x hx=>by simpa using h5 j x hx)⟩⟩;obtain⟨y,_,rfl⟩:=ph.1 hx;rfl
 ·simp at h
 rename_i i off hfr;split at h<;>try(simp at h;done)
 rename_i h0;simp only[dA]at h0;subst h0;split at h<;>try(simp at h;done)
 rename_i cs hcs;obtain⟨l,hl,h⟩:=bA.1 h;simp only[bP]at h;subst h;have hob:=R.lam i;rw[hcs]at hob;simp only[ObR]at hob;obtain⟨cur,e,fz,hb,hu,hO,hsz,hr⟩:=hob;have hv:=R.fr t;rw[hfr]at hv;simp only[LVR]at hv;obtain⟨e1,hg⟩:=Cu hl;refine⟨_,R.freezeOb (n:=cur.size) (by rw[hcs];trivial) (λhle=> ?_) (λb hb=>by simp[b6]at hb)⟩;rw[hv.2];simp only[LVR,VR];refine⟨_,_,rfl,CL_of λj c hc=> ?_⟩;obtain⟨c',hc',hcc⟩:=vN hc;obtain⟨x,hx,hgc⟩:=hg j c' hc';have hj:j<cur.size:=by have:=(dP.1 hx).1;omega
 refine⟨cur.getD j undef,?_,?_,hcc _ _ _ (de hle c' _ (ji hgc (hr j x hx)))⟩
 ·rw[fZ];exact cell_of_heap hb hj
 ·rw[fS];omega
def zO: ∀{ts:List Nat} {s s':S} {μ:Mu} {tm:Array Value} {G:Gh},wW ts s=some s'->Rel G L s μ tm w->
 ∃G',Rel G' L s' μ tm w/\Ext L (bM G w s μ tm) G w G' w (bM G' w s' μ tm)
 |[],s,s',μ,tm,G,h,R=>by simp only[wW,bP]at h;subst h;exact⟨G,R,Ext.refl G w λ_ h=>h⟩|t::r,s,s',μ,tm,G,h,R=>by simp only[wW]at h;obtain⟨s1,h1,h2⟩:=bA.1 h;obtain⟨G1,R1,E1⟩:=Kw h1 R;obtain⟨G2,R2,E2⟩:=zO h2 R1;exact⟨G2,R2,E1.trans E2⟩
def Gm {isA:Bool}{sz:Nat}: ∀(n:Nat) (cs:List CV),(lY isA sz n cs).length=n
 |0,cs=>rfl|n+1,cs=>by simp[lY,Gm n]
def Ec: ∀(n:Nat) {cs:List CV},gg cs=true->gg (cs.drop n)=true
 |0,cs,h=>h|n+1,[],h=>rfl|n+1,c::r,h=>by
  simp only[gg]at h;split at h<;>try(simp at h;done)
  simpa using Ec n h
def Jy {isA:Bool}{sz b:Nat}: ∀(n off:Nat) (cs:List CV),(isA=true\/(sz=1/\gg cs=true))->n*sz<=cs.length->CL G w b off cs->
 (∀x∈lY isA sz n cs,x.cells.length=sz)/\EL G w b sz off (lY isA sz n cs)
 |0,off,cs,_,_,_=>by simp[lY,EL]|n+1,off,cs,hz,hl,h=>by
  have hl':n*sz+sz<=cs.length:=by rw[ow]at hl;omega
  obtain⟨h1,h2⟩:=Jy n (off+sz) (cs.drop sz) (hz.imp id λhz=>⟨hz.1,Ec sz hz.2⟩) (by simp only[fY];omega) (wq sz h);cases isA with
  |true=>simp only[lY,ed,forall_eq_or_imp,EL];refine⟨⟨?_,h1⟩,HI sz h,h2⟩;simp only[CV.cells,qo];omega|false=>
   obtain⟨hz1,hs⟩:sz=1/\gg cs=true:=by rcases hz with hz|hz<;>simp_all
   subst hz1;cases cs with
   |nil=>simp at hl'|cons c r=>
    simp only[lY,List.headD_cons,ed,forall_eq_or_imp];simp only[gg]at hs;split at hs<;>try(simp at hs;done)
    rename_i hs1;simp only[CL]at h;cases c<;>simp only[dJ,d6]at hs1<;>simp only[EL]<;>exact⟨⟨rfl,h1⟩,h.1,h2⟩
def Gy {t:Nat}{e:TypeId}{s s':S}{μ:Mu}{tm:Array Value}(h:o3 P t e s=some s')(R:Rel G L s μ tm w):
 ∃G',Rel G' L s' μ tm w/\Ext L (bM G w s μ tm) G w G' w (bM G' w s' μ tm):=by
 unfold o3 at h;split at h<;>try(simp at h;done)
 rename_i i off len hfr;split at h<;>try(simp at h;done)
 rename_i h0;simp only[dA]at h0;subst h0;split at h<;>try(simp at h;done)
 rename_i sz cs hcs;obtain⟨n,hn,h⟩:=bA.1 h;obtain⟨hsz,h⟩:=bR.1 h;obtain⟨hg,h⟩:=bR.1 h;simp only[bP]at h;subst h;have hsz:=fb hsz;subst hsz;simp only[cE,gO]at hg;obtain⟨hg1,hg2⟩:=hg;have hg2:=gr hg2;have hob:=R.lam i;rw[hcs]at hob;simp only[ObR]at hob;obtain⟨hk,cur,e',fz,hb,hu,hO,hle,hr⟩:=hob;have hv:=R.fr t;rw[hfr]at hv;simp only[LVR]at hv;obtain⟨hi,cap,cur2,e2,fz2,hv1,hv2,hv3,hv4,hv5⟩:=hv;refine⟨_,R.freezeOb (n:=cur.size) (by rw[hcs];trivial) (λhle'=> ?_) (λb hb=>by simp[b6]at hb)⟩;rw[hv1];simp only[LVR,VR];have hcl:CL (G.setO (G.β L i) cur.size) w (G.β L i) 0 cs:=CL_of λj c hc=>by
  have hj:j<cur.size:=by have:=(dP.1 hc).1;omega
  exact⟨cur.getD j undef,by rw[fZ];exact cell_of_heap hb hj,by rw[fS];omega,de hle' c _ (hr j c hc)⟩
 obtain ⟨k1, k2⟩ := Jy (isA := dN P e) (sz := sz) len 0 cs (by
  rcases hg1 with h|⟨h1,h2⟩
  ·exact .inl h
  ·exact .inr ⟨fb h1,h2⟩) hg2 hcl
 exact⟨_,len,cap,rfl,(Gm len cs).symm,hv2,.inr ⟨G.β L i,0,sz,rfl,k1,k2⟩⟩
def uA: ∀{ts:List (Nat×TypeId)} {s s':S} {μ:Mu} {tm:Array Value} {G:Gh},ny P ts s=some s'->Rel G L s μ tm w->
 ∃G',Rel G' L s' μ tm w/\Ext L (bM G w s μ tm) G w G' w (bM G' w s' μ tm)
 |[],s,s',μ,tm,G,h,R=>by simp only[ny,bP]at h;subst h;exact⟨G,R,Ext.refl G w λ_ h=>h⟩|t::r,s,s',μ,tm,G,h,R=>by simp only[ny]at h;obtain⟨s1,h1,h2⟩:=bA.1 h;obtain⟨G1,R1,E1⟩:=Gy h1 R;obtain⟨G2,R2,E2⟩:=uA h2 R1;exact⟨G2,R2,E1.trans E2⟩
end
def KOK {α:Type}(L:Nat)(G:Gh)(w:World)(s:S)(μ:Mu)(a:Act)(dst:Option Tmp)(k:LV->S->Mu->Option α)(r:α)(K:Act->World->Prop):Prop:=
 ∀v s' μ' cv w' G',k v s' μ'=some r->Rel G' L (s'.put dst v) μ' (a.put dst cv).tmps w'->
  Ext L (bM G w s μ a.tmps) G w G' w' (bM G' w' (s'.put dst v) μ' (a.put dst cv).tmps)->K (a.put dst cv) w'
def POK {α:Type}(L:Nat)(G:Gh)(w:World)(s:S)(μ:Mu)(a:Act)(p:CV->S->Mu->Option α)(r:α)(Q:Exit->Act->World->Prop):Prop:=
 ∀v s' μ' pv w' G',p v s' μ'=some r->Rel G' L s' μ' a.tmps w'->VR G' w' v pv->
  Ext L (bM G w s μ a.tmps) G w G' w' (bM G' w' s' μ' a.tmps)->Q (.panic [{v:=pv,recovered:=false}]) a w'
section
variable {P:Program}{α:Type}{L:Nat}{G:Gh}{w:World}{s:S}{μ:Mu}{a:Act}{o:Oper}{k:LV->S->Mu->Option α}{p:CV->S->Mu->Option α}{r:α}{K:Act->World->Prop}{Q:Exit->Act->World->Prop}
def eU {cv:Value}{w':World}(h:(execOp a.eval o).run P w= .ok (.value cv) w')(hK:K (a.put o.dst cv) w'):o.wp P a w K Q:=by unfold Oper.wp;rw[h];exact hK
def tI {w':World}(h:(execOp a.eval o).run P w= .ok .skip w')(hK:K (a.put o.dst undef) w'):o.wp P a w K Q:=by unfold Oper.wp;rw[h];exact hK
def RW {v:Value}{w':World}(h:(execOp a.eval o).run P w= .halt (.panic v) w')(hQ:Q (.panic [{v,recovered:=false}]) a w'):o.wp P a w K Q:=by unfold Oper.wp;rw[h];exact hQ
def gy (R:Rel G L s μ a.tmps w)(hd: ∀d,o.dst=some d->d<a.tmps.size)(hk:KOK L G w s μ a o.dst k r K){ts:List Nat}{v:LV}{cv:Value}
 (h:k v (bz ts s) μ=some r) (hrun:(execOp a.eval o).run P w= .ok (.value cv) w) (hv:LVR G w L s.lam.length v cv)
 (ho: ∀b,b6 v cv b-> ∃t,t∈ts/\b6 (s.fr t) (a.tmps.getD t undef) b):o.wp P a w K Q:=by
 obtain⟨h1,h2⟩:=abi (dst:=o.dst) R hv ho hd;exact eU hrun (hk v _ μ cv w G h h1 h2)
def fk (R:Rel G L s μ a.tmps w)(hd: ∀d,o.dst=some d->d<a.tmps.size)(hk:KOK L G w s μ a o.dst k r K){ts:List Nat}{c:CV}
 (h:k (.cv c) (bz ts s) μ=some r) (hrun: ∃cv,(execOp a.eval o).run P w= .ok (.value cv) w/\VR G w c cv):o.wp P a w K Q:=by
 obtain⟨cv,h1,h2⟩:=hrun;exact gy R hd hk h h1 (by simpa[LVR]using h2) (λb hb=>by simp[b6]at hb)
def acd {x:LV}{v:Value}{n:Int}{t ty:TypeId}(h:VC P t x=some n)(hv:LVR G w L s.lam.length x v):(Builtin.len_ #[t] ty #[v]).run P w= .ok (.int .i64 n) w:=by
 unfold VC at h;split at h
 ·rename_i hu;obtain⟨l,h1,h2⟩:=bA.1 h;simp only[bP]at h2;rw[kH h1]at hv;simp only[LVR,VR]at hv;subst hv;have e: ∀b:ByteArray,(Builtin.len_ #[t] ty #[.string b]).run P w= .ok (goInt (b.size:Nat)) w:=λb=>by simp[Builtin.len_,df hu]
  rw[e,<-h2];rfl
 ·rename_i e hu;unfold ad6 at h;have key: ∀A m c,v= .slice A m c->(m:Int)=n->(Builtin.len_ #[t] ty #[v]).run P w= .ok (.int .i64 n) w:=by intro A m c e em;subst e;simp[Builtin.len_,df hu,goInt,em]
  have key2: ∀xs,VR G w (.sl xs) v->(xs.length:Int)=n->(Builtin.len_ #[t] ty #[v]).run P w= .ok (.int .i64 n) w:=by intro xs hx e;simp only[VR]at hx;grind
  split at h<;>simp only[bP,reduceCtorEq]at h
  ·simp only[LVR]at hv;exact key2 _ hv h
  ·simp only[LVR,VR]at hv;exact key none 0 0 hv h
  ·simp only[LVR]at hv;exact key2 _ (lL hv) h
  ·simp only[LVR]at hv;grind
  ·simp only[LVR,VR]at hv;grind
  ·simp only[LVR]at hv;grind
 ·simp at h
def GF {x:LV}{v:Value}(h:lZ x=some false)(hv:LVR G w L s.lam.length x v)(x':Operand)(he:a.eval x'=v)(ho:o.op= .nilCheck x'):
 (execOp a.eval o).run P w= .ok (.value v) w:=by
 have: ∀u,(match u with| .pointer none| .nilIface| .nilFunc=>False| .func (.method _) _ _=>False|_=>True)->a.eval x'=u->(execOp a.eval o).run P w= .ok (.value u) w:=by
  intro u hu e;simp only[execOp,ho,e];cases u with
  |pointer A=>cases A<;>first|exact hu.elim|rfl
  |func fn f c=>cases fn<;>first|exact hu.elim|rfl
  |nilIface=>exact hu.elim|nilFunc=>exact hu.elim|_=>rfl
 refine this v ?_ he;unfold lZ at h;split at h<;>simp only[bP,reduceCtorEq,Bool.true_eq_false]at h<;>simp only[LVR,VR]at hv
 ·grind
 ·simp_all
 ·grind
 ·grind
 ·simp_all
 ·grind
 all_goals simp_all
def Xb {nl:Nat}{x:LV}{v:Value}(hv:LVR G w L nl x v):LVR G w L nl (xw x) v/\ ∀b,b6 (xw x) v b->b6 x v b:=by
 cases x with
 |tloc i t n=>simp only[LVR,xw]at hv |-;exact⟨⟨hv.1,hv.2.1⟩,λb hb=>by simp[b6]at hb⟩|cv c=>
  cases c with|tref lev i t n=>simp only[LVR,VR,xw,mt]at hv |-;exact⟨⟨hv.1,hv.2.1⟩,λb hb=>by simp[b6]at hb⟩|_=>exact⟨hv,λ_ hb=>hb⟩
 |_=>exact⟨hv,λ_ hb=>hb⟩
end
section
variable {P:Program}{ρ:Rho}{α:Type}{L:Nat}{G:Gh}{w:World}{s:S}{μ:Mu}{a:Act}{o:Oper}{h:OpHint}{k:LV->S->Mu->Option α}{p:CV->S->Mu->Option α}{r:α}{K:Act->World->Prop}{Q:Exit->Act->World->Prop}
def fX {x:Sem Value}{v:Value}{w':World}(h:x.run P w= .ok v w'):(do pure (Next.value (<-x)):Sem Next).run P w= .ok (.value v) w':=by simp_all
def eV (R:Rel G L s μ a.tmps w){x:Operand}{c:CV}(e:evA h s.fr x= .cv c):VR G w c (a.eval x):=by have:=(cG R h x).1;rw[e]at this;simpa[LVR]using this
def mT (R:Rel G L s μ a.tmps w){x:Operand}{k:IntKind}{n:Int}(e:evA h s.fr x= .cv (.v (.int k n))):a.eval x= .int k n:=by have:=eV R e;simpa[VR]using this
def mM (R:Rel G L s μ a.tmps w){x:Option Operand}{d:Int}{β:Type}{k:Int->Option β}{r:β}(hb:fV (evA h s.fr) x d k=some r):
 ∃n,qr (x.map a.eval) d n/\k n=some r:=by
 rcases Pv hb with⟨rfl,h1⟩|⟨o,kd,n,rfl,h1,h2⟩
 ·exact⟨d,.inl ⟨rfl,rfl⟩,h1⟩
 ·exact⟨n,.inr ⟨kd,by simp[mT R h1]⟩,h2⟩
def Yj {x:Operand}(ho:o.op= .move x\/o.op= .assign x)(R:Rel G L s μ a.tmps w)(hd: ∀d,o.dst=some d->d<a.tmps.size)(hk:KOK L G w s μ a o.dst k r K)
 (hop:k (evA h s.fr x) (bz h.take s) μ=some r):o.wp P a w K Q:=
 gy R hd hk hop (by rcases ho with ho|ho<;>simp[execOp,ho]) (cG R h x).1 (cG R h x).2
def agh {c x y:Operand}(ho:o.op= .pick c x y)(R:Rel G L s μ a.tmps w)(hd: ∀d,o.dst=some d->d<a.tmps.size)(hk:KOK L G w s μ a o.dst k r K)
 (hop:opt (bO (evA h s.fr c)) (λt=>k (Hh t (evA h s.fr x) (evA h s.fr y)) (bz h.take s) μ)=some r):o.wp P a w K Q:=by
 obtain⟨t,h1,h2⟩:=bA.1 hop;have hc:=eV R (jF h1);simp only[VR]at hc;obtain⟨hv,hw⟩:=aaM (t:=t) (cG R h x).1 (cG R h y).1;refine gy R hd hk h2 (cv:=if t=true then a.eval x else a.eval y) (by simp[execOp,ho,hc,asBool]) hv λb hb=> ?_;rcases hw b hb with hb|hb
 ·exact(cG R h x).2 b hb
 ·exact(cG R h y).2 b hb
def aeH {t:TypeId}{parts:Array (Nat×Operand)}(ho:o.op= .build t parts)(R:Rel G L s μ a.tmps w)(hd: ∀d,o.dst=some d->d<a.tmps.size)(hk:KOK L G w s μ a o.dst k r K)
 (hop:Gj P t (evA h s.fr) parts.toList (λc=>k (.cv c) (bz h.take s) μ)=some r):o.wp P a w K Q:=by
 rw[vC]at hop;obtain⟨c,h2,h4⟩:=bA.1 hop;obtain⟨ps,h1,h3⟩:=U8 h2;refine fk R hd hk h4 ?_;have hp:=wi R h h1;unfold Gi at h3;obtain⟨z,hz,h3⟩:=bA.1 h3;obtain⟨zv,i,_,_,hzr,hzl⟩:=mc (G:=G) (w:=w) hz;have hparts:(parts.map λq=>(q.1,a.eval q.2)).toList=parts.toList.map λq=>(q.1,a.eval q.2):=bE;split at h3
 ·rename_i fs hu;obtain⟨pl,hpl,h3⟩:=bA.1 h3;obtain⟨cs,hf,h3⟩:=bA.1 h3;simp only[bP]at h3;subst h3;obtain⟨b,hb,hr,_⟩:=yP hp hzl hf;have hmap: ∀(l:List Field) (pl:List (Nat×Nat)),kW P l=some pl->(l.mapM λf=>(do pure (f.offset,<-sizeOf f.type):Sem (Nat×Nat))).run P w= .ok pl w:=by
   intro l
   induction l with
   |nil=>intro pl h;simp only[kW,bP]at h;subst h;simp|cons f l ih=>intro pl h;simp only[kW]at h;obtain⟨n,hn,h⟩:=bA.1 h;obtain⟨q,hq,h⟩:=bA.1 h;simp only[bP]at h;subst h;simp only[List.mapM_cons,dk,ge hn,dq,fA,ih q hq]
  have hm:=hmap fs.toList pl hpl;have hm2:(fs.mapM λf=>(do pure (f.offset,<-sizeOf f.type):Sem (Nat×Nat))).run P w= .ok pl.toArray w:=by rw[Array.mapM_eq_mapM_toList,Sem.run_map,hm];rfl
  refine⟨.agg b,?_,by simp only[VR];exact⟨b,rfl,hr⟩⟩;simp only[execOp,ho];refine fX ?_;have hpe:(λ(x:Nat)=>(pl.toArray)[x]?)=λ(i:Nat)=>pl[i]? :=by funext i;simp
  simp only[Instr.build,dk,hzr,dq,df hu,hm2,hparts,hpe,hb,fA]
 ·rename_i n e hu;obtain⟨sz,hsz,h3⟩:=bA.1 h3;obtain⟨cs,hf,h3⟩:=bA.1 h3;simp only[bP]at h3;subst h3;obtain⟨b,hb,hr,_⟩:=yP hp hzl hf;refine⟨.agg b,?_,by simp only[VR];exact⟨b,rfl,hr⟩⟩;simp only[execOp,ho];refine fX ?_;simp only[Instr.build,dk,hzr,dq,df hu,ge hsz,hparts,hb,fA]
 ·simp at h3
def Vb {x:Operand}(ho:o.op= .nilCheck x)(R:Rel G L s μ a.tmps w)(hd: ∀d,o.dst=some d->d<a.tmps.size)(hk:KOK L G w s μ a o.dst k r K)
 (hop:opt (lZ (evA h s.fr x)) (λb=>bD (!b) (k (xw (evA h s.fr x)) (bz h.take s) μ))=some r):o.wp P a w K Q:=by
 obtain⟨b,h1,h2⟩:=bA.1 hop;obtain⟨h3,h4⟩:=bR.1 h2;have hb:b=false:=by simpa using h3
 subst hb;obtain⟨h5,h6⟩:=Xb (cG R h x).1;exact gy R hd hk h4 (GF h1 (cG R h x).1 x rfl ho) h5 λb hb=>(cG R h x).2 b (h6 b hb)
def aeG {op:BinOp}{t ty:TypeId}{x y:Operand}(ho:o.op= .binOp op t x y ty)(R:Rel G L s μ a.tmps w)(hd: ∀d,o.dst=some d->d<a.tmps.size)(hk:KOK L G w s μ a o.dst k r K)
 (hop:(vZ P op t x y (evA h s.fr x) (evA h s.fr y) λc=>k (.cv c) (bz h.take s) μ)=some r):o.wp P a w K Q:=by
 obtain⟨c,h1,h2⟩:=Yb (λ_ e=>by subst e;rfl) (λ_ e=>by subst e;rfl) hop;refine fk R hd hk h2 ?_;obtain⟨cv,h3,h4⟩:=abN h1 (cG R h x).1 (cG R h y).1 (λcc e=>by subst e;rfl) (λcc e=>by subst e;rfl);refine⟨cv,?_,by subst h4;simp[VR]⟩;simp only[execOp,ho];exact fX h3
def agi {op:UnOp}{t:TypeId}{x:Operand}(ho:o.op= .unOp op t x)(R:Rel G L s μ a.tmps w)(hd: ∀d,o.dst=some d->d<a.tmps.size)(hk:KOK L G w s μ a o.dst k r K)
 (hop:opt (unA op (evA h s.fr x)) (λc=>k (.cv c) (bz h.take s) μ)=some r):o.wp P a w K Q:=by
 obtain⟨c,h1,h2⟩:=bA.1 hop;refine fk R hd hk h2 ?_;obtain⟨cv,h3,h4⟩:=afV (P:=P) h1 (cG R h x).1;refine⟨cv,?_,by subst h4;simp[VR]⟩;simp only[execOp,ho];exact fX h3
def Gk {t:TypeId}{x:Operand}{d:TypeDesc}(ho:o.op= .makeInterface t x)(hu:P.underlying t=some d)(hni: ∀ms,d≠ .interface ms)(R:Rel G L s μ a.tmps w)(hd: ∀d,o.dst=some d->d<a.tmps.size)(hk:KOK L G w s μ a o.dst k r K)
 (hop:opt (cW (evA h s.fr x)) (λc=>k (.cv (.iface t c)) (bz h.take s) μ)=some r):o.wp P a w K Q:=by
 obtain⟨c,h1,h2⟩:=bA.1 hop;refine fk R hd hk h2 ⟨.iface t (a.eval x),?_,by simp only[VR];exact⟨_,rfl,ji h1 (cG R h x).1⟩⟩;simp only[execOp,ho];refine fX ?_;simp only[Instr.makeInterface,dk,df hu,dq];rfl
def Va {f:FuncId}{first captured:Array Operand}(ho:o.op= .makeFunc (.func f) first captured)(hf:first.toList=[])(R:Rel G L s μ a.tmps w)(hd: ∀d,o.dst=some d->d<a.tmps.size)(hk:KOK L G w s μ a o.dst k r K)
 (hop:k (.lclo f (captured.toList.map λx=>strip1 (evA h s.fr x))) (bz h.take s) μ=some r):o.wp P a w K Q:=by
 have hf':first= #[]:=by cases first;simp_all
 subst hf';refine gy R hd hk hop (cv:= .func (.func f) #[] (captured.map a.eval)) ?_ ?_ (λb hb=>by simp[b6]at hb)
 ·simp only[execOp,ho];exact fX (by simp[Instr.makeFunc])
 ·simp only[LVR];refine⟨_,rfl,?_⟩;rw[Array.toList_map];generalize captured.toList=l
  induction l with|nil=>simp[en]|cons x l ih=>simp only[dr,en];exact⟨_,_,rfl,(nf (cG R h x).1).2,(nf (cG R h x).1).1,ih⟩
def Yh {x:Operand}{i:Nat}(ho:o.op= .extract x i)(R:Rel G L s μ a.tmps w)(hd: ∀d,o.dst=some d->d<a.tmps.size)(hk:KOK L G w s μ a o.dst k r K)
 (hop:opt (ci (evA h s.fr x)) (λxs=>opt (xs[i]?) λv=>k v (bz h.take s) μ)=some r):o.wp P a w K Q:=by
 obtain⟨xs,h1,h2⟩:=bA.1 hop;obtain⟨v,h3,h4⟩:=bA.1 h2;have hv:=(cG R h x).1;rw[JK h1]at hv;simp only[LVR]at hv;obtain⟨vs,e,hl⟩:=hv;obtain⟨cv,h5,h6,h7⟩:=(xS hl).2 i v h3;refine gy R hd hk h4 (cv:=cv) ?_ h6 (λb hb=>absurd hb (uh h7));simp only[execOp,ho,e];refine fX ?_;have h5':vs[i]? =some cv:=by simpa using h5
 simp[Instr.extract,h5']
def aeK {x:Operand}{t:TypeId}{c:CV}(ho:o.op= .panic x)(R:Rel G L s μ a.tmps w)(hp:POK L G w s μ a p r Q)(he:evA h s.fr x= .cv (.iface t c))
 (hop:p (.iface t c) (bz h.take s) μ=some r):o.wp P a w K Q:=by
 obtain⟨R',hh⟩:=Rel.strips h.take R;have hl:=cq h.take s;have hv:=eV R he;have hv':=hv;simp only[VR]at hv';obtain⟨u,e,_⟩:=hv';refine RW (v:=a.eval x) (w':=w) ?_ (hp _ _ μ _ w G hop R' hv (Ext.refl G w λb hb=> ?_))
 ·rw[e];simp only[execOp,ho,e];rfl
 ·rcases hb with⟨l,hb⟩|hb
  ·exact .inl ⟨l,(hh l b (by rw[<-hl.1];exact hb)).2⟩
  ·exact .inr (by rw[<-hl.1];exact hb)
end
def ug (G:Gh)(w:World)(lev:Nat):Le (G.below lev) w G w:=by refine⟨λ_ _ _ h hb=>⟨h,hb⟩,λl i h=> ?_,λ_ _ _ h hc=>⟨h,hc⟩,λb cur e fz h=>⟨cur,fz,h,rfl⟩⟩;simp only[Gh.below]at h |-;grind
mutual
def u4 {G:Gh}{w:World}{lev L nl:Nat}: ∀(x:LV) (v:Value),LVR (G.below lev) w lev 0 x v->LVR G w L nl x v
 | .cv c,v,h=>by simp only[LVR]at h |-; exact de (ug G w lev) c v h| .osl xs,v,h=>by simp only[LVR]at h |-; exact pr (ug G w lev) (λ_ _ _ _=>⟨rfl,rfl⟩) h| .ost xs,v,h=>by simp only[LVR]at h |-; exact h| .stl n,v,h=>by simpa[LVR]using h| .loc i off,v,h=>by simp only[LVR]at h;omega| .lsl i off len,v,h=>by simp only[LVR]at h;omega| .mloc i,v,h=>by simp only[LVR]at h;omega| .tloc i t n,v,h=>by simp only[LVR]at h;omega| .lclo f caps,v,h=>by simp only[LVR]at h |-;obtain⟨vs,e,hl⟩:=h;exact⟨vs,e,xT caps _ hl⟩
 | .ltup xs,v,h=>by simp only[LVR]at h |-;obtain⟨vs,e,hl⟩:=h;exact⟨vs,e,xT xs _ hl⟩
def xT {G:Gh}{w:World}{lev L nl:Nat}: ∀(xs:List LV) (vs:List Value),en (G.below lev) w lev 0 xs vs->en G w L nl xs vs
 |[],vs,h=>by simpa[en]using h|x::xs,vs,h=>by simp only[en]at h |-;obtain⟨v,r,e,h0,h1,h2⟩:=h;exact⟨v,r,e,h0,u4 x v h1,xT xs r h2⟩
end
section
variable {P:Program}{ρ:Rho}{α:Type}{L:Nat}{G:Gh}{w:World}{s:S}{μ:Mu}{a:Act}{o:Oper}{h:OpHint}{k:LV->S->Mu->Option α}{p:CV->S->Mu->Option α}{r:α}{K:Act->World->Prop}{Q:Exit->Act->World->Prop}
def Vv {cs:List LV}{l:List CV}{nl:Nat}{vs:List Value}(hl:oE cs=some l)(hlen:vs.length=cs.length)(hr: ∀j x,cs[j]? =some x->LVR G w L nl x (vs.getD j undef)):VRL G w l vs:=by obtain⟨e,hg⟩:=Cu hl;refine jD bu λj c v hc hv=> ?_;obtain⟨x,hx,hgc⟩:=hg j c hc;have:=hr j x hx;rw[gi,hv]at this;exact ji hgc this
def uK {t:TypeId}{ob:Ob}{off nl b sz:Nat}{v:LV}(hob:ObR G w L nl b sz ob)(h:tQ P t ob off=some v)(hd: ∃d,P.underlying t=some d):
 ∃cv,(Instr.loadAt t (.pointer (some ⟨b,off,none⟩))).run P w= .ok cv w/\LVR G w L nl v cv/\ ∀b',¬b6 v cv b':=by
 unfold tQ at h;cases ob with
 |dead=>simp at h|map ks vs=>simp at h|cells cs=>
  simp only[ObR]at hob h;obtain⟨cur,e,fz,hb,hu,hO,hsz,hr⟩:=hob;have hcell: ∀(n:Nat) (hn:off+n<=cur.size) (j:Nat) v,((List.range n).map λj=>cur.getD (off+j) undef)[j]? =some v->w.cell? ⟨b,off+j,none⟩=some v:=by
   intro n hn j v hv;simp only[gM,qn]at hv;obtain⟨q,hq,rfl⟩:=hv;have hj:j<n:=by have:=(dP.1 hq).1;simpa using this
   have:q=j:=by rw[tY hj]at hq;exact(iM hq).symm
   subst this;exact cell_of_heap hb bu
  split at h
  ·rename_i ha;obtain⟨n,hn,h⟩:=bA.1 h;split at h<;>try(simp at h;done)
   rename_i hle;have hle:=gr hle;obtain⟨l,hl,h⟩:=bA.1 h;simp only[bP]at h;subst h;refine⟨_,(mZ (hcell n bu) hd).1 ha n hn bE,?_,λb' hb'=>by simp[b6]at hb'⟩;simp only[LVR,VR];refine⟨_,rfl,Vv (L:=L) (nl:=nl) hl (by simp only[ly,List.length_range,qo,fY];omega) λj x hx=> ?_⟩;have hjn:j<n:=by have:=(dP.1 hx).1;simp only[qo]at this;omega
   rw[Dh hjn,u0]at hx;have:=hr (off+j) x hx;rw[gi];simpa[gM,tY hjn]using this
  ·rename_i ha;split at h<;>simp only[bP,reduceCtorEq]at h;rename_i x hx;subst h;have hj:off<cs.length:=(dP.1 hx).1;refine⟨cur.getD off undef,(mZ (vs:=[cur.getD off undef]) (λj u hu=> ?_) hd).2 (by simpa using ha) _ rfl,oM (hr off x hx),λb'=>ng⟩;cases j with|zero=>simp only[ft,bP]at hu;subst hu;exact cell_of_heap hb bu|succ j=>simp at hu
 |arr k cs=>
  simp only[ObR]at hob h;obtain⟨hk,cur,e,fz,hb,hu,hO,hsz,hr⟩:=hob;obtain⟨c,hc,h⟩:=bA.1 h;simp only[bP]at h;subst h;have hO':Le G w (G.setO b cur.size) w->CL (G.setO b cur.size) w b 0 cs:=λhle=>CL_of λj c hc=>by
   have hj:j<cur.size:=by have:=(dP.1 hc).1;omega
   exact⟨cur.getD j undef,by rw[fZ];exact cell_of_heap hb hj,by rw[fS];omega,de hle c _ (hr j c hc)⟩
  unfold kZ at hc;split at hc
  ·rename_i ha;obtain⟨n,hn,hc⟩:=bA.1 hc;split at hc<;>simp only[bP,reduceCtorEq]at hc;rename_i hle;have hle:=gr hle;subst hc;have hcell: ∀(j:Nat) v,((List.range n).map λj=>cur.getD (off+j) undef)[j]? =some v->w.cell? ⟨b,off+j,none⟩=some v:=by
    intro j v hv;simp only[gM,qn]at hv;obtain⟨q,hq,rfl⟩:=hv;have hj:j<n:=by have:=(dP.1 hq).1;simpa using this
    have:q=j:=by rw[tY hj]at hq;exact(iM hq).symm
    subst this;exact cell_of_heap hb bu
   refine⟨_,(mZ hcell hd).1 ha n hn bE,?_,λb' hb'=>by simp[b6]at hb'⟩;simp only[LVR,VR];refine⟨_,rfl,jD (by simp only[ly,List.length_range,qo,fY];omega) λj c v hc hv=> ?_⟩;have hjn:j<n:=by have:=(dP.1 hc).1;simp only[qo]at this;omega
   rw[Dh hjn,u0]at hc;have:=hr (off+j) c hc;have hv':v=cur.getD (off+j) undef:=by simp only[gM,tY hjn,gN,bP]at hv;exact hv.symm
   rw[hv'];exact this
  ·rename_i ha;have hj:off<cs.length:=(dP.1 hc).1;refine⟨cur.getD off undef,(mZ (vs:=[cur.getD off undef]) (λj u hu=> ?_) hd).2 (by simpa using ha) _ rfl,by simp only[LVR];exact hr off c hc,λb' hb'=>by simp[b6]at hb'⟩;cases j with|zero=>simp only[ft,bP]at hu;subst hu;exact cell_of_heap hb bu|succ j=>simp at hu
def kx {t:TypeId}{cs:List CV}{off:Nat}{c:CV}(h:nP P t cs off=some c):kZ P t cs off=some c/\ ∃d,P.underlying t=some d:=by unfold nP at h;obtain⟨d,h1,h2⟩:=bA.1 h;simp_all
def aeI {t:TypeId}{x:Operand}{f:Nat}(ho:o.op= .field t x f)(R:Rel G L s μ a.tmps w)(hd: ∀d,o.dst=some d->d<a.tmps.size)(hk:KOK L G w s μ a o.dst k r K)
 (hop:opt (MP P t (evA h s.fr x) f) (λv=>k v (bz h.take s) μ)=some r):o.wp P a w K Q:=by
 obtain⟨v,h1,h2⟩:=bA.1 hop;unfold MP at h1;obtain⟨q,hq,h1⟩:=bA.1 h1;obtain⟨cs,hc,h1⟩:=bA.1 h1;obtain⟨c,ht,h1⟩:=bA.1 h1;simp only[bP]at h1;subst h1;have hv:=eV R (o4 hc);simp only[VR]at hv;obtain⟨vs,e,hl⟩:=hv;obtain⟨u,h3,h4⟩:=Y2 hq (kx ht).1 (kx ht).2 hl;refine fk R hd hk h2 ⟨u,?_,h4⟩;simp only[execOp,ho,e];exact fX h3
def Ve {cs cs':List CV}{b off n:Nat}(h:CL G w b off cs)(hf:nU cs cs')(hn:n<=cs'.length):VR G w (.view (cs'.drop n)) (.pointer (some ⟨b,off+n,none⟩)):=by simp only[VR];exact⟨b,off+n,rfl,wq n (hf.CL h)⟩
def Pz {t:TypeId}{x:Operand}{f:Nat}(ho:o.op= .fieldAddr t x f)(R:Rel G L s μ a.tmps w)(hd: ∀d,o.dst=some d->d<a.tmps.size)(hk:KOK L G w s μ a o.dst k r K)
 (hop:jE P h t (evA h s.fr x) f (λv=>k v (bz h.take s) μ)=some r):o.wp P a w K Q:=by
 unfold jE at hop;obtain⟨q,hq,hop⟩:=bA.1 hop;have hrun: ∀b off,a.eval x= .pointer (some ⟨b,off,none⟩)->(execOp a.eval o).run P w= .ok (.value (.pointer (some ⟨b,off+q.1,none⟩))) w:=by intro b off e;simp only[execOp,ho,e];exact fX (PL hq b off)
 split at hop
 ·rename_i i off he;have hv:=(cG R h x).1;rw[he]at hv;simp only[LVR]at hv;exact gy R hd hk hop (hrun _ _ hv.2) (by simp only[LVR];exact⟨hv.1,trivial⟩) (λb hb=>by simp[b6]at hb)
 ·rename_i c he;split at hop
  ·obtain⟨cs,hc,hop⟩:=bA.1 hop;obtain⟨cs',h1,hf⟩:=pL hop;obtain⟨hle,h2⟩:=bR.1 h1;have hv:=eV R (yV hc);simp only[VR]at hv;obtain⟨b,off,e,hl⟩:=hv;exact fk R hd hk h2 ⟨_,hrun b off e,Ve hl hf (gr hle)⟩
  ·obtain⟨q',hc,hop⟩:=bA.1 hop;have hv:=eV R (vF hc);simp only[VR]at hv;exact fk R hd hk hop ⟨_,hrun _ _ hv.2,by simp only[VR];exact⟨hv.1,trivial⟩⟩
 ·simp at hop
def m0 {l:Lam}{i:Nat}{o:Ob}:cx (μ++[l]) μ.length i o=μ++[l.set i o]:=by simp[cx]
def m3 {l:Lam}{lev i:Nat}{o:Ob}(h:lev<μ.length):cx (μ++[l]) lev i o=cx μ lev i o++[l]:=by unfold cx;grind
def D7 {t:TypeId}{ob:Ob}{off:Nat}{q:LV×Ob}(h:jl P t ob off=some q):dN P t=false/\(∃d,P.underlying t=some d)/\ ∃cs,ob= .cells cs/\cs[off]? =some q.1/\q.2= .cells (cs.set off (strip q.1)):=by unfold jl at h;obtain⟨d,hd,h⟩:=bA.1 h;grind
def Ni {t:TypeId}{b off:Nat}{cur:Array Value}{e:TypeId}{fz:Nat×Nat}(hb:w.heap[b]? =some (.cells cur e fz))(hoff:off<cur.size)(ha:dN P t=false)(hd: ∃d,P.underlying t=some d):
 (Instr.loadAt t (.pointer (some ⟨b,off,none⟩))).run P w= .ok (cur.getD off undef) w:=by
 refine(mZ (vs:=[cur.getD off undef]) (λj u hu=> ?_) hd).2 ha _ rfl;cases j with|zero=>simp only[ft,bP]at hu;subst hu;exact cell_of_heap hb hoff|succ j=>simp at hu
def fI (R:Rel G L s μ a.tmps w)(ts:List Nat):Rel G L (bz ts s) μ a.tmps w/\Ext L (bM G w s μ a.tmps) G w G w (bM G w (bz ts s) μ a.tmps)/\
 (∀l b,bK G w (bz ts s).fr a.tmps (μ++[(bz ts s).lam]) l b->(∀t,t∈ts->l≠ .fr t)/\bK G w s.fr a.tmps (μ++[s.lam]) l b):=by
 obtain⟨R',h⟩:=Rel.strips ts R;have hl:=cq ts s;refine⟨R',Ext.refl G w λb hb=> ?_,λl b hb=>h l b (by rw[<-hl.1];exact hb)⟩;rcases hb with⟨l,hb⟩|hb
 ·exact .inl ⟨l,(h l b (by rw[<-hl.1];exact hb)).2⟩
 ·exact .inr (by rw[<-hl.1];exact hb)
def agf {t:TypeId}{x:Operand}(ho:o.op= .load t x)(R:Rel G L s μ a.tmps w)(hd: ∀d,o.dst=some d->d<a.tmps.size)(hk:KOK L G w s μ a o.dst k r K)
 (hop:ke P h t (evA h s.fr x) (bz h.take s) μ k=some r):o.wp P a w K Q:=by
 have hl:=cq h.take s;obtain⟨R1,E1,_⟩:=fI R h.take;unfold ke at hop;split at hop
 ·rename_i i off he;have hv:=(cG R h x).1;rw[he]at hv;simp only[LVR]at hv;split at hop<;>try(simp at hop;done)
  split at hop
  ·obtain⟨v,h1,h2⟩:=bA.1 hop;unfold cw at h1;obtain⟨d,h3,h1⟩:=bA.1 h1;rw[hl.1]at h1;obtain⟨cv,h4,h5,h6⟩:=uK (R.lam i) h1 ⟨d,h3⟩;obtain⟨y,h7,h8⟩:=zX h2;obtain⟨h9,h10⟩:=h8 G w L s.lam.length cv h5;refine gy R hd hk h7 (cv:=cv) ?_ h9 (λb hb=>absurd (h10 b hb) (h6 b));simp only[execOp,ho,hv.2];exact fX h4
  ·obtain⟨q,h1,h2⟩:=bA.1 hop;obtain⟨ha,hu,cs,hob,hx,hq⟩:=D7 h1;have hob':bT (μ++[(bz h.take s).lam]) L i= .cells cs:=by rw[<-R.lev];exact db.trans hob
   obtain⟨cur,e,fz,hb,hoff,R2,hT,hval,hown⟩:=R1.takeOb (s1:={bz h.take s with lam:=(bz h.take s).lam.set i q.2}) (μ1:=μ) hob' hx rfl rfl bE rfl (by rw[hq,<-R.lev];exact m0.symm);have hval':LVR G w L (bz h.take s).lam.length q.1 (cur.getD off undef):=by
    rcases hval with⟨_,hval⟩|⟨h0,_⟩
    ·exact hval
    ·omega
   obtain⟨R3,E3⟩:=eQ (dst:=o.dst) (v:=q.1) (cv:=cur.getD off undef) R2 (E1.weaken (λ_ h=>h) (λb hb=>hT b hb)) (by simpa using hval') (λb hb=>⟨(hown b hb).1,(hown b hb).2.1,(E1.grow b (hown b hb).2.2)⟩) hd;refine eU ?_ (hk _ _ μ _ w G h2 R3 E3);simp only[execOp,ho,hv.2];exact fX (Ni hb hoff ha hu)
 ·split at hop
  ·obtain⟨cs,hc,hop⟩:=bA.1 hop;obtain⟨c,ht,hop⟩:=bA.1 hop;have hv:=eV R (yV hc);simp only[VR]at hv;obtain⟨b,off,e,hcl⟩:=hv;obtain⟨u,h1,h2⟩:=Pc (kx ht).1 (kx ht).2 hcl;refine fk R hd hk hop ⟨u,?_,h2⟩;simp only[execOp,ho,e];exact fX h1
  ·obtain⟨q,hc,hop⟩:=bA.1 hop;have hv:=eV R (vF hc);simp only[VR]at hv;split at hop
   ·obtain⟨v,h1,hop⟩:=bA.1 hop;unfold cw at h1;obtain⟨d,h3,h1⟩:=bA.1 h1;have hq:q.1<L:=by
     rw[<-R.lev];by_cases hq:q.1<μ.length
     ·exact hq
     ·simp only[ce]at h1;rw[eB bu]at h1;simp[tQ]at h1
    obtain⟨cv,h4,h5,h6⟩:=uK (R.mu q.1 q.2.1 hq) h1 ⟨d,h3⟩;obtain⟨y,h7,h8⟩:=j4 hop;obtain⟨h9,h10⟩:=h8 G w L s.lam.length cv (u4 v cv h5);refine gy R hd hk h7 (cv:=cv) ?_ h9 (λb hb=>absurd (h10 b hb) (h6 b));simp only[execOp,ho,hv.2];exact fX h4
   ·obtain⟨q',h1,hop⟩:=bA.1 hop;obtain⟨ha,hu,cs,hob,hx,hq'⟩:=D7 h1;have hq:q.1<μ.length:=by
     by_cases hq:q.1<μ.length
     ·exact hq
     ·simp only[ce]at hob;rw[eB bu]at hob;cases hob
    have hob':bT (μ++[(bz h.take s).lam]) q.1 q.2.1= .cells cs:=(cV hq).trans hob;obtain⟨cur,e,fz,hb,hoff,R2,hT,hval,hown⟩:=R1.takeOb (s1:=bz h.take s) (μ1:=cx μ q.1 q.2.1 q'.2) hob' hx rfl rfl rfl lG.1 (by rw[hq'];exact(m3 hq).symm);have hval':LVR G w L (bz h.take s).lam.length q'.1 (cur.getD q.2.2 undef):=by
     rcases hval with⟨h0,_⟩|⟨_,hval⟩
     ·rw[R.lev]at hq;omega
     ·exact u4 _ _ hval
    obtain⟨y,h7,h8⟩:=j4 hop;obtain⟨h9,h10⟩:=h8 G w L _ _ hval';obtain⟨R3,E3⟩:=eQ (dst:=o.dst) (v:=y) (cv:=cur.getD q.2.2 undef) R2 (E1.weaken (λ_ h=>h) (λb hb=>hT b hb)) h9 (λb hb=>⟨(hown b (h10 b hb)).1,(hown b (h10 b hb)).2.1,(E1.grow b (hown b (h10 b hb)).2.2)⟩) hd;refine eU ?_ (hk _ _ _ _ w G h7 R3 E3);simp only[execOp,ho,hv.2];exact fX (Ni hb hoff ha hu)
 ·simp at hop
def aa8 {xs:List CV}{i:Int}{c:CV}(h:cT xs i=some c):0<=i/\xs[i.toNat]? =some c:=by unfold cT at h;grind
def lm {i:Int}{n:Nat}(h:fo i n=true):0<=i/\i<(n:Int):=by simpa[fo]using h
def lc {c:CV}(h: ∀cs,c≠ .agg cs):c.cells=[c]:=by cases c<;>first|rfl|exact absurd rfl (h _)
def abS {β:Type}{d:TypeDesc}{c:CV}{k:CV->Option β}{r:β}(h:k9 d (.cv c) k=some r):
 ∃c':CV,k c'=some r/\(c'=c\/((∀cs,c≠ .agg cs)/\ ∀cs,c'≠ .agg cs))/\ ∀(G:Gh) (w:World) (v:Value),VR G w c v->VR G w c' v:=by
 obtain⟨c0,h0,hr⟩:=wa h;unfold k9 at h;split at h<;>obtain⟨q,h1,h2⟩:=bA.1 h
 ·have:=mU h1;grind
 ·have:=jF h1;grind
 ·have:=kH h1;grind
 ·refine⟨_,h2,.inr ⟨λcs e=> ?_,bE⟩,λG w v hv=>jO (L:=0) (nl:=0) h1 (by simpa[LVR]using hv)⟩;subst e;simp[cj]at h1
 ·simp only[cW,bP]at h1;grind
def PA {t:TypeId}{x ix:Operand}(ho:o.op= .indexAddr t x ix)(R:Rel G L s μ a.tmps w)(hd: ∀d,o.dst=some d->d<a.tmps.size)(hk:KOK L G w s μ a o.dst k r K)
 (hop:opt (pF (evA h s.fr ix)) (λi=>jG P h t (evA h s.fr x) i λv=>k v (bz h.take s) μ)=some r):o.wp P a w K Q:=by
 obtain⟨i,h1,hop⟩:=bA.1 hop;obtain⟨kd,e1⟩:=rR h1;have hi:=mT R e1;have hrunS: ∀e n b off len cap,P.underlying t=some (.slice e)->er P e=some n->a.eval x= .slice (some ⟨b,off,none⟩) len cap->0<=i->i<(len:Int)->
  (execOp a.eval o).run P w= .ok (.value (.pointer (some ⟨b,off+i.toNat*n,none⟩))) w:=by
  intro e n b off len cap hu hn ea h0 hlt;simp only[execOp,ho,ea,hi];refine fX ?_;simp[Instr.indexAt,asIntOf,df hu,h0,hlt,ge hn,ij]
 have hrunA: ∀e n b off len,P.underlying t=some (.array len e)->er P e=some n->a.eval x= .pointer (some ⟨b,off,none⟩)->0<=i->i<(len:Int)->
  (execOp a.eval o).run P w= .ok (.value (.pointer (some ⟨b,off+i.toNat*n,none⟩))) w:=by
  intro e n b off len hu hn ea h0 hlt;simp only[execOp,ho,ea,hi];refine fX ?_;simp[Instr.indexAt,Instr.sureAddr,asIntOf,df hu,h0,hlt,ge hn,ij]
 have hsl: ∀xs e n,P.underlying t=some (.slice e)->er P e=some n->VR G w (.sl xs) (a.eval x)->
  (opt (cT xs i) λc=>jx P e c λc=>pS (dN P e) n c λv=>k v (bz h.take s) μ)=some r->o.wp P a w K Q:=by
  intro xs e n hu hn hv hop0;obtain⟨c,hc,hop1⟩:=bA.1 hop0;have hop:=RS hop1 (λc hc=>YY hc);clear hop0 hop1;obtain⟨h0,hget⟩:=aa8 hc;simp only[VR]at hv;obtain⟨A,len,cap,e2,rfl,hle,hx⟩:=hv;have hlt:i.toNat<xs.length:=(dP.1 hget).1;rcases hx with hx|⟨b,off,sz,rfl,hs,hl⟩
  ·omega
  have hcl:=KF hl i.toNat c hget;have hsc:c.cells.length=sz:=hs c (List.mem_of_getElem? hget);have key: ∃c':CV,bD (Nat.beq c'.cells.length n) (k (.cv (.view c'.cells)) (bz h.take s) μ)=some r/\c'.cells.length=sz/\CL G w b (off+i.toNat*sz) c'.cells:=by
   unfold jx j5 at hop;split at hop
   ·split at hop
    ·obtain⟨cs,hag,hop1⟩:=bA.1 hop;have:=o4 hag;injection this with this;subst this;exact⟨_,hop1,hsc,hcl⟩
    ·obtain⟨cs,hag,hop1⟩:=bA.1 hop;obtain⟨cs',hop2,hf⟩:=pL hop1;have:=o4 hag;injection this with this;subst this;exact⟨_,hop2,by simp only[CV.cells]at hsc |-; rw[hf.1];exact hsc,by simp only[CV.cells]at hcl |-; exact hf.CL hcl⟩
   ·split at hop<;>try(simp at hop;done)
    obtain⟨c',hop1,hcase,hr⟩:=abS hop;rcases hcase with rfl|⟨n1,n2⟩
    ·exact⟨c',hop1,hsc,hcl⟩
    ·refine⟨c',hop1,?_,?_⟩
     ·rw[lc n1]at hsc;rw[lc n2];exact hsc
     ·rw[lc n1]at hcl;rw[lc n2];simp only[CL,ka]at hcl |-;obtain⟨v,a1,a2,a3⟩:=hcl;exact⟨v,a1,a2,hr G w v a3⟩
  obtain⟨c',hop1,hlc,hcl'⟩:=key;obtain⟨hlen,hop2⟩:=bR.1 hop1;have hlen:=fb hlen;have hsn:sz=n:=bu;subst hsn;exact fk R hd hk hop2 ⟨_,hrunS e sz b off xs.length cap hu hn e2 h0 bu,by simp only[VR];exact⟨b,_,rfl,hcl'⟩⟩
 unfold jG at hop;split at hop
 ·rename_i e hu;obtain⟨n,hn,hop⟩:=bA.1 hop;split at hop
  ·rename_i id off len he;obtain⟨hr,hop⟩:=bR.1 hop;obtain⟨h0,hlt⟩:=lm hr;have hv:=(cG R h x).1;rw[he]at hv;simp only[LVR]at hv;obtain⟨hid,cap,cur,e',fz,hv,_⟩:=hv;exact gy R hd hk hop (hrunS e n _ _ len cap hu hn hv h0 hlt) (by simp only[LVR];exact⟨hid,trivial⟩) (λb hb=>by simp[b6]at hb)
  ·rename_i xs he;have hv:=(cG R h x).1;rw[he]at hv;simp only[LVR]at hv;exact hsl xs e n hu hn (lL hv) hop
  ·split at hop
   ·obtain⟨xs,hg,hop⟩:=bA.1 hop;exact hsl xs e n hu hn (jO hg (cG R h x).1) hop
   ·obtain⟨q,hg,hop⟩:=bA.1 hop;obtain⟨hr,hop⟩:=bR.1 hop;obtain⟨h0,hlt⟩:=lm hr;have hv:=eV R (Y9 hg);simp only[VR]at hv;obtain⟨hid,cap,cur,e',fz,hv,_⟩:=hv;exact fk R hd hk hop ⟨_,hrunS e n _ _ _ cap hu hn hv h0 hlt,by simp only[VR];exact⟨hid,trivial⟩⟩
  ·simp at hop
 ·rename_i len e hu;obtain⟨n,hn,hop⟩:=bA.1 hop;split at hop
  ·rename_i id off he;obtain⟨hr,hop⟩:=bR.1 hop;obtain⟨h0,hlt⟩:=lm hr;have hv:=(cG R h x).1;rw[he]at hv;simp only[LVR]at hv;exact gy R hd hk hop (hrunA e n _ _ len hu hn hv.2 h0 hlt) (by simp only[LVR];exact⟨hv.1,trivial⟩) (λb hb=>by simp[b6]at hb)
  ·split at hop
   ·obtain⟨cs,hg,hop⟩:=bA.1 hop;obtain⟨hr,hop⟩:=bR.1 hop;obtain⟨hle,hop⟩:=bR.1 hop;obtain⟨h0,hlt⟩:=lm hr;have hv:=eV R (yV hg);simp only[VR]at hv;obtain⟨b,off,e2,hcl⟩:=hv;exact fk R hd hk hop ⟨_,hrunA e n b off len hu hn e2 h0 hlt,by simp only[VR];exact⟨b,_,rfl,wq _ hcl⟩⟩
   ·obtain⟨q,hg,hop⟩:=bA.1 hop;obtain⟨hr,hop⟩:=bR.1 hop;obtain⟨h0,hlt⟩:=lm hr;have hv:=eV R (vF hg);simp only[VR]at hv;exact fk R hd hk hop ⟨_,hrunA e n _ _ len hu hn hv.2 h0 hlt,by simp only[VR];exact⟨hv.1,trivial⟩⟩
  ·simp at hop
 ·simp at hop
end
section
variable {P:Program}{ρ:Rho}{α:Type}{L:Nat}{G:Gh}{w:World}{s:S}{μ:Mu}{a:Act}{o:Oper}{h:OpHint}{k:LV->S->Mu->Option α}{p:CV->S->Mu->Option α}{r:α}{K:Act->World->Prop}{Q:Exit->Act->World->Prop}
def aeJ {t:TypeId}{x ix:Operand}(ho:o.op= .index t x ix)(R:Rel G L s μ a.tmps w)(hd: ∀d,o.dst=some d->d<a.tmps.size)(hk:KOK L G w s μ a o.dst k r K)
 (hop:opt (pF (evA h s.fr ix)) (λi=>pY P t (evA h s.fr x) i λv=>k v (bz h.take s) μ)=some r):o.wp P a w K Q:=by
 obtain⟨i,h1,hop⟩:=bA.1 hop;obtain⟨kd,e1⟩:=rR h1;have hi:=mT R e1;unfold pY at hop;split at hop
 ·rename_i hu;obtain⟨l,h2,hop⟩:=bA.1 hop;obtain⟨b,h3,hop⟩:=bA.1 hop;have hv:=eV R (kH h2);simp only[VR]at hv;refine fk R hd hk hop ⟨.int .u8 (b.toNat:Int),?_,by simp[VR]⟩;simp only[execOp,ho,hv,hi];exact fX (abk hu h3)
 ·rename_i len e hu;split at hop<;>try(simp at hop;done)
  obtain⟨cs,h2,hop⟩:=bA.1 hop;obtain⟨n,hn,hop⟩:=bA.1 hop;obtain⟨hr,hop⟩:=bR.1 hop;obtain⟨c,hc,hop⟩:=bA.1 hop;obtain⟨c',hop,hr'⟩:=uV hop;obtain⟨h0,hlt⟩:=lm hr;have hv:=eV R (o4 h2);simp only[VR]at hv;obtain⟨vs,e2,hl⟩:=hv;obtain⟨u,h3,h4⟩:=Cs (P:=P) (kx hc).1 (kx hc).2 hl;refine fk R hd hk hop ⟨u,?_,hr' G w 0 0 u (by simpa[LVR]using h4)⟩;simp only[execOp,ho,e2,hi];refine fX ?_;simp only[Instr.index,asIntOf,dk,fA,dq,df hu,bC (And.intro h0 hlt),ge hn,h3]
 ·simp at hop
def aeL {t:TypeId}{x:Operand}{lo hi:Option Operand}(ho:o.op= .slice t x lo hi none)(R:Rel G L s μ a.tmps w)(hd: ∀d,o.dst=some d->d<a.tmps.size)(hk:KOK L G w s μ a o.dst k r K)
 (hop:l9 P t (evA h s.fr x) lo hi (evA h s.fr) (λv=>k v (bz h.take s) μ)=some r):o.wp P a w K Q:=by
 have hrun: ∀{cv:Value},(Instr.sliceAt t (a.eval x) (lo.map a.eval) (hi.map a.eval) none).run P w= .ok cv w->(execOp a.eval o).run P w= .ok (.value cv) w:=by intro cv h;simp only[execOp,ho];exact fX (by simpa using h)
 unfold l9 at hop;split at hop
 ·rename_i hu;obtain⟨l,h2,hop⟩:=bA.1 hop;obtain⟨m,hm,hop⟩:=mM R hop;obtain⟨n,hn,hop⟩:=mM R hop;obtain⟨q,hq,hop⟩:=bA.1 hop;have hv:=eV R (kH h2);simp only[VR]at hv;refine fk R hd hk hop ⟨.string ⟨⟨q⟩⟩,hrun ?_,by simp[VR]⟩;rw[hv];exact O9 hu hq hm hn
 ·rename_i e hu;obtain⟨sz,hsz,hop⟩:=bA.1 hop;have hsl: ∀xs,VR G w (.sl xs) (a.eval x)->(fV (evA h s.fr) lo 0 λm=>fV (evA h s.fr) hi (xs.length:Int) λn=>bD (pc sz m xs) (opt (gc xs m n) λq=>k (.cv (.sl q)) (bz h.take s) μ))=some r->o.wp P a w K Q:=by intro xs hv hop;obtain⟨m,hm,hop⟩:=mM R hop;obtain⟨n,hn,hop⟩:=mM R hop;obtain⟨hg,hop⟩:=bR.1 hop;obtain⟨q,hq,hop⟩:=bA.1 hop;obtain⟨u,h3,h4⟩:=RN hu hsz hv hq hg hm hn;exact fk R hd hk hop ⟨u,hrun h3,h4⟩
  split at hop
  ·obtain⟨xs,h2,hop⟩:=bA.1 hop;exact hsl xs (jO h2 (cG R h x).1) hop
  ·rename_i xs he;have hv:=(cG R h x).1;rw[he]at hv;simp only[LVR]at hv;exact hsl xs (lL hv) hop
  ·rename_i id off len he;obtain⟨m,hm,hop1⟩:=mM R hop;obtain⟨n,hn,hop2⟩:=mM R hop1;obtain⟨hg,hop3⟩:=bR.1 hop2;clear hop hop1 hop2;simp only[cE,dA]at hg;obtain⟨⟨hm0,h0⟩,hle⟩:=hg;rw[hm0]at hm;have hv:=(cG R h x).1;rw[he]at hv;simp only[LVR]at hv;obtain⟨hid,cap,cur,e',fz,hv,hlc,hcm,hb,hsize⟩:=hv;have hbs:=mC (P:=P) (w:=w) (isS:=true) hlc (Dw 0) h0 hle hm hn;refine gy R hd hk hop3 (cv:= .slice (some ⟨G.β L id,off,none⟩) n.toNat cap) (hrun ?_) ?_ (λb hb=>by simp[b6]at hb)
   ·rw[hv];simp only[Instr.sliceAt,dk,df hu,dq,Instr.slice,hbs,ge hsz,fA];by_cases hc:cap=0
    ·simp[hc]
    ·simp[hc,ij]
   ·simp only[LVR];exact⟨hid,cap,cur,e',fz,rfl,bu,hcm,hb,hsize⟩
  ·rename_i xs he;obtain⟨m,hm,hop1⟩:=mM R hop;obtain⟨n,hn,hop2⟩:=mM R hop1;obtain⟨hg,hop3⟩:=bR.1 hop2;clear hop hop1 hop2;simp only[cE,dA]at hg;obtain⟨⟨hm0,h0⟩,hle⟩:=hg;rw[hm0]at hm;obtain⟨hv,how⟩:=cG R h x;rw[he]at hv how;simp only[LVR]at hv;rcases hv with⟨h1,h2⟩|⟨b,cap,cur,e',hv,hb,h1,h2,h3,h4,h5⟩
   ·rw[h1]at hle;simp only[fL]at hle;omega
   have hbs:=mC (P:=P) (w:=w) (isS:=true) h1 (Dw 0) h0 (Int.le_of_lt hle) hm hn;refine gy R hd hk hop3 (cv:= .slice (some ⟨b,0,none⟩) n.toNat cap) (hrun ?_) ?_ (λb' hb'=>how b' (by rw[hv];simpa[b6]using hb'))
   ·rw[hv];simp only[Instr.sliceAt,dk,df hu,dq,Instr.slice,hbs,ge hsz,fA];by_cases hc:cap=0
    ·simp[hc]
    ·simp[hc,ij]
   ·simp only[LVR];refine .inr ⟨b,cap,cur,e',by rw[qo,UA bu],hb,by rw[qo];omega,h2,h3,h4,λj y hy=>h5 j y ?_⟩;rw[List.getElem?_take]at hy;split at hy
    ·exact hy
    ·cases hy
  ·simp at hop
 ·simp at hop
def ahZ {x:Operand}{t:TypeId}{c:Call}(ho:o.op= .call c)(hc:c.callee= .builtin .len)(hx:c.args.toList=[x])(ht:c.argTypes.toList=[t])(R:Rel G L s μ a.tmps w)(hd: ∀d,o.dst=some d->d<a.tmps.size)(hk:KOK L G w s μ a o.dst k r K)
 (hop:opt (VC P t (evA h s.fr x)) (λn=>k (.cv (.v (.int .i64 n))) (bz h.take s) μ)=some r):o.wp P a w K Q:=by
 obtain⟨n,h1,h2⟩:=bA.1 hop;have hx':c.args= #[x]:=by cases ha:c.args;simp_all
 have ht':c.argTypes= #[t]:=by cases ha:c.argTypes;simp_all
 refine fk R hd hk h2 ⟨.int .i64 n,?_,by simp[VR]⟩;have:=acd (ty:=o.type) h1 (cG R h x).1;simp only[execOp,ho,resolve,hc,hx',ht',dk,fA,dq,invoke,builtin,t6,dr,iA];rw[this];rfl
def ahf (x y:Int):(if y>x then y else x)=max x y:=by omega
def ahg (x y:Int):(if y<x then y else x)=min x y:=by omega
def ah0 {x y:Operand}{c:Call}(ho:o.op= .call c)(hc:c.callee= .builtin .max)(hx:c.args.toList=[x,y])(R:Rel G L s μ a.tmps w)(hd: ∀d,o.dst=some d->d<a.tmps.size)(hk:KOK L G w s μ a o.dst k r K)
 (hop:opt (bN .i64 (evA h s.fr x)) (λm=>opt (bN .i64 (evA h s.fr y)) λn=>k (.cv (.v (.int .i64 (max m n)))) (bz h.take s) μ)=some r):o.wp P a w K Q:=by
 obtain⟨m,h1,hop⟩:=bA.1 hop;obtain⟨n,h2,hop⟩:=bA.1 hop;have hx':c.args= #[x,y]:=by cases ha:c.args;simp_all
 refine fk R hd hk hop ⟨.int .i64 (max m n),?_,by simp[VR]⟩;simp only[execOp,ho,resolve,hc,hx',dk,fA,dq,invoke,builtin,t6,dr,iA,mT R (mU h1),mT R (mU h2)];simp only[Builtin.max_,List.foldlM_cons,List.foldlM_nil,Builtin.max2,dk,fA,dq,ahf]
def ah1 {x y:Operand}{c:Call}(ho:o.op= .call c)(hc:c.callee= .builtin .min)(hx:c.args.toList=[x,y])(R:Rel G L s μ a.tmps w)(hd: ∀d,o.dst=some d->d<a.tmps.size)(hk:KOK L G w s μ a o.dst k r K)
 (hop:opt (bN .i64 (evA h s.fr x)) (λm=>opt (bN .i64 (evA h s.fr y)) λn=>k (.cv (.v (.int .i64 (min m n)))) (bz h.take s) μ)=some r):o.wp P a w K Q:=by
 obtain⟨m,h1,hop⟩:=bA.1 hop;obtain⟨n,h2,hop⟩:=bA.1 hop;have hx':c.args= #[x,y]:=by cases ha:c.args;simp_all
 refine fk R hd hk hop ⟨.int .i64 (min m n),?_,by simp[VR]⟩;simp only[execOp,ho,resolve,hc,hx',dk,fA,dq,invoke,builtin,t6,dr,iA,mT R (mU h1),mT R (mU h2)];simp only[Builtin.min_,List.foldlM_cons,List.foldlM_nil,Builtin.min2,dk,fA,dq,ahg]
def qA: ∀{xs:List CV} {l:List UInt8},dg xs=some l-> ∃ns:List Int,xs=ns.map (λn=> .v (.int .u8 n))/\l=ns.map λn=>UInt8.ofNat n.toNat
 |[],l,h=>by simp only[dg,bP]at h;subst h;exact⟨[],rfl,rfl⟩|c::r,l,h=>by
  unfold dg at h;split at h<;>try(simp at h;done)
  ·simp_all
  ·rename_i n r' e;injection e with e1 e2;subst e1;subst e2;split at h<;>try(simp at h;done)
   obtain⟨l',h1,h2⟩:=bA.1 h;simp only[bP]at h2;subst h2;obtain⟨ns,h3,h4⟩:=qA h1;exact⟨n::ns,by rw[h3];rfl,by rw[h4];rfl⟩
def Vs (ns:List Int): ∀(acc:List UInt8),ns.foldl (λr n=>r.push (UInt8.ofNat n.toNat)) (⟨⟨acc⟩⟩:ByteArray)=⟨⟨acc++ns.map λn=>UInt8.ofNat n.toNat⟩⟩:=by
 induction ns with|nil=>intro acc;simp|cons n ns ih=>simp_all
def sW {A:Addr}{len cap:Nat}{ns:List Int}(hl:len=ns.length)(hc: ∀(j:Nat) n,ns[j]? =some n->w.cell? (A.add j)=some (.int .u8 n)):
 (Conv.bytesToString (.slice (some A) len cap)).run P w= .ok (.string ⟨⟨ns.map λn=>UInt8.ofNat n.toNat⟩⟩) w:=by
 have h1:(loadCells A len).run P w= .ok (ns.map (Value.int .u8)).toArray w:=by
  have := run_loadCells_list (P := P) w A (ns.map (Value.int .u8)) (λj v hv => by
   simp only[gM,qn]at hv;obtain⟨n,hn,rfl⟩:=hv
   exact hc j n hn)
  rw[hl];simpa using this
 rw[run_bytesToString w A len cap ns h1];have:=Vs ns [];simp only[eR]at this;rw[<-this];rfl
def Yg {src dst:TypeId}{x:Operand}(ho:o.op= .convert src dst x)(R:Rel G L s μ a.tmps w)(hd: ∀d,o.dst=some d->d<a.tmps.size)(hk:KOK L G w s μ a o.dst k r K)
 (hop:gb P h src dst (evA h s.fr x) (bz h.take s) μ k=some r)
 (hsb : ∀ e l, P.underlying dst = some (.slice e) -> P.underlying e = some (.int .u8) -> P.underlying src = some .string -> evA h s.fr x = LV.str l -> small l.length = true ->
  (match h.arr with
   |true=>k (.lsl (bz h.take s).lam.length 0 l.length) {bz h.take s with lam:=(bz h.take s).lam++[.arr 1 (l.map λb=> .v (.int .u8 (b.toNat:Int)))]} μ
   |false=>k (.cv (.sl (l.map λb=> .v (.int .u8 (b.toNat:Int))))) (bz h.take s) μ)=some r->o.wp P a w K Q):o.wp P a w K Q:=by
 have hl:=cq h.take s;have hrun: ∀{cv:Value},(convert src dst (a.eval x)).run P w= .ok cv w->(execOp a.eval o).run P w= .ok (.value cv) w:=by intro cv h;simp only[execOp,ho];exact fX h
 unfold gb at hop;split at hop
 ·rename_i ik hu;split at hop<;>try(simp at hop;done)
  rename_i ik' hu';obtain⟨n,h1,hop⟩:=bA.1 hop;obtain⟨kd,e1⟩:=rR h1;refine fk R hd hk hop ⟨.int ik (ik.wrap n),hrun ?_,by simp[VR]⟩;rw[mT R e1];simp[convert,df hu,df hu',Conv.intToInt]
 ·rename_i hu;split at hop
  ·rename_i hu';obtain⟨l,h1,hop⟩:=bA.1 hop;have hv:=eV R (kH h1);simp only[VR]at hv;refine fk R hd hk hop ⟨.string ⟨⟨l⟩⟩,hrun ?_,by simp[VR]⟩;rw[hv];simp[convert,df hu,df hu']
  ·rename_i e hu';split at hop<;>try(simp at hop;done)
   rename_i hue;have hconv: ∀A len cap,a.eval x= .slice A len cap->convert src dst (a.eval x)=convert src dst (.slice A len cap):=λA len cap e=>by rw[e]
   have hcv: ∀A len cap,(convert src dst (.slice A len cap)).run P w=(Conv.bytesToString (.slice A len cap)).run P w:=by intro A len cap;simp[convert,df hu,df hu',df hue]
   split at hop
   ·rename_i id off len he;split at hop<;>try(simp at hop;done)
    rename_i sz cs hob;obtain⟨hle,hop⟩:=bR.1 hop;have hle:=gr hle;obtain⟨l,hb,hop⟩:=bA.1 hop;obtain⟨ns,h1,h2⟩:=qA hb;have hv:=(cG R h x).1;rw[he]at hv;simp only[LVR]at hv;obtain⟨hid,cap,cur,e',fz,hv,hlc,hcm,hbk,hsize⟩:=hv;have hobr:=R.lam id;rw[hl.1]at hob;rw[hob]at hobr;simp only[ObR]at hobr;obtain⟨_,cur2,e2,fz2,hbk2,_,_,hsz,hr⟩:=hobr;have hlen:ns.length=len:=by have:=mE List.length h1;grind
    refine fk R hd hk hop ⟨.string ⟨⟨l⟩⟩,hrun ?_,by simp[VR]⟩;rw[hv,hcv,h2];refine sW hlen.symm λj n hn=> ?_;have hj:j<len:=by have:=(dP.1 hn).1;omega
    rw[ij,cell_of_heap hbk2 bu];have hx:cs[off+j]? =some (.v (.int .u8 n)):=by
     have e3:((cs.drop off).take len)[j]? =some (.v (.int .u8 n)):=by rw[h1];simp[hn]
     grind
    have:=hr (off+j) _ hx;simp only[VR]at this;rw[this]
   ·obtain⟨xs,hg,hop⟩:=bA.1 hop;obtain⟨l,hb,hop⟩:=bA.1 hop;obtain⟨ns,rfl,rfl⟩:=qA hb;have hv:=jO hg (cG R h x).1;simp only[VR]at hv;obtain⟨A,len,cap,e1,e2,_,hx⟩:=hv;have hlen:len=ns.length:=by simpa using e2
    refine fk R hd hk hop ⟨.string ⟨⟨ns.map λn=>UInt8.ofNat n.toNat⟩⟩,hrun ?_,by simp[VR]⟩;rw[e1,hcv];cases A with
    |none=>
     have:ns=[]:=by simp_all
     subst this;rfl
    |some A=>
     refine sW hlen λj n hn=> ?_;have hj:j<ns.length:=(dP.1 hn).1;rcases hx with hx|⟨b,off,sz,hA,hs,hel⟩
     ·omega
     ·injection hA with hA;subst hA;have hcl:=KF hel j (.v (.int .u8 n)) (by simp[hn]);have hsz:sz=1:=by have:=hs (.v (.int .u8 n)) (by simp;exact List.mem_of_getElem? hn);simpa[CV.cells]using this.symm
      subst hsz;simp only[CV.cells,CL,ka]at hcl;obtain⟨v,h3,_,h4⟩:=hcl;simp only[VR]at h4;subst h4;rw[ij];simpa using h3
  ·simp at hop
 ·rename_i e hu;split at hop<;>try(simp at hop;done)
  rename_i hu';split at hop<;>try(simp at hop;done)
  rename_i hue;obtain⟨l,h1,hop⟩:=bA.1 hop;obtain⟨hsm,hop⟩:=bR.1 hop;exact hsb e l hu hue hu' (kH h1) hsm hop
 ·simp at hop
end
def pg (cur:Array Value):iQ cur (0,0):=λj _ h=>by simp at h
section
variable {P:Program}{ρ:Rho}{α:Type}{L:Nat}{G:Gh}{w:World}{s:S}{μ:Mu}{a:Act}{o:Oper}{h:OpHint}{k:LV->S->Mu->Option α}{p:CV->S->Mu->Option α}{r:α}{K:Act->World->Prop}{Q:Exit->Act->World->Prop}
def O5 {G:Gh}{L m b kk:Nat}{pu:Bool}: ∀l,l<L->(∀i,(G.setL L m b kk pu).β l i=G.β l i/\(G.setL L m b kk pu).sz l i=G.sz l i)/\(G.setL L m b kk pu).n l=G.n l:=by intro l hl;have: ¬l=L:=bu;simp[Gh.setL,this]
def l4 {G0:Gh}{w0:World}{T0:Nat->Prop}(R:Rel G L s μ a.tmps w)(E:Ext L T0 G0 w0 G w (bM G w s μ a.tmps))(hd: ∀d,o.dst=some d->d<a.tmps.size)
 {cur:Array Value} {e:TypeId} {ob:Ob} {kk:Nat} {fz:Nat×Nat} (hfz:iQ cur fz)
 (hob : (∃ cs, ob = .cells cs /\ cs.length <= cur.size /\ ∀ j x, cs[j]? = some x -> LVR G w L s.lam.length x (cur.getD j undef)) \/
  (∃cs,ob= .arr kk cs/\cs.length<=cur.size/\ ∀j x,cs[j]? =some x->VR G w x (cur.getD j undef)))
 (hown: ∀cs j b,ob= .cells cs->fD cs cur j b->((∀l,¬bK G w s.fr a.tmps (μ++[s.lam]) l b)/\(∀lev i,b8 (bT (μ++[s.lam]) lev i)->G.β lev i≠b)/\ ∀j',fD cs cur j' b->j'=j)/\(T0 b\/w0.heap.size<=b))
 {v:LV} {cv:Value} (hv: ∀G1 w1,G1=G.setL L s.lam.length w.heap.size kk s.pushed->w1=w.alloc (.cells cur e fz)->LVR G1 w1 L (s.lam.length+1) v cv) (hno: ∀b,¬b6 v cv b):
 ∃G1,Rel G1 L ({s with lam:=s.lam++[ob]}.put o.dst v) μ (a.put o.dst cv).tmps (w.alloc (.cells cur e fz))/\
  Ext L T0 G0 w0 G1 (w.alloc (.cells cur e fz)) (bM G1 (w.alloc (.cells cur e fz)) ({s with lam:=s.lam++[ob]}.put o.dst v) μ (a.put o.dst cv).tmps):=by
 obtain⟨R1,hle,hT,_⟩:=R.newLocal hfz (e:=e) hob λcs j b h1 h2=>(hown cs j b h1 h2).1;have E1:Ext L T0 G0 w0 (G.setL L s.lam.length w.heap.size kk s.pushed) (w.alloc (.cells cur e fz)) (bM (G.setL L s.lam.length w.heap.size kk s.pushed) (w.alloc (.cells cur e fz)) {s with lam:=s.lam++[ob]} μ a.tmps):=by
  refine⟨E.le.trans hle,E.os,E.tape,E.output,iN E.size bE,λb hb hn=> ?_,λb hb=> ?_,λl hl=> ?_⟩
  ·obtain⟨h1,h2⟩:=E.keep b hb hn;have hlt:b<w.heap.size:=u1 hb E.size;refine⟨(jz w _ hlt).trans h1,?_⟩;rw[<-h2];have:b≠w.heap.size:=bu;simp[Gh.setL,this]
  ·rcases hT b hb with h1|rfl|⟨cs,j,h1,h2⟩
   ·exact E.grow b h1
   ·exact .inr E.size
   ·exact(hown cs j b h1 h2).2
  ·obtain⟨h1,h2⟩:=E.lev l hl;obtain⟨h3,h4⟩:=O5 (G:=G) (m:=s.lam.length) (b:=w.heap.size) (kk:=kk) (pu:=s.pushed) l hl;simp_all
 obtain⟨R2,E2⟩:=eQ (dst:=o.dst) (v:=v) (cv:=cv) R1 E1 (by simpa using hv _ _ rfl rfl) (λb hb=>absurd hb (hno b)) hd;exact⟨_,R2,E2⟩
def TP {cur:Array Value}{e:TypeId}{fz:Nat×Nat}{kk:Nat}: ∀G1 w1,G1=G.setL L s.lam.length w.heap.size kk s.pushed->w1=w.alloc (.cells cur e fz)->
 LVR G1 w1 L (s.lam.length+1) (.loc s.lam.length 0) (.pointer (some ⟨w.heap.size,0,none⟩)):=by
 intro G1 w1 hG hw;subst hG;simp only[LVR];exact⟨bu,by simp[Gh.setL]⟩
def U2 {b:Bool}{n:Nat}{cur:Array Value}{e:TypeId}{fz:Nat×Nat}{kk:Nat}(hn:cur.size=n): ∀G1 w1,G1=G.setL L s.lam.length w.heap.size kk s.pushed->w1=w.alloc (.cells cur e fz)->
 LVR G1 w1 L (s.lam.length+1) (Bk b s.lam.length e n) (.pointer (some ⟨w.heap.size,0,none⟩)):=by
 intro G1 w1 hG hw;cases b with
 |false=>exact TP G1 w1 hG hw|true=>
  subst hG;subst hw;simp only[LVR,Bk];have e1:(G.setL L s.lam.length w.heap.size kk s.pushed).β L s.lam.length=w.heap.size:=by simp[Gh.setL]
  exact⟨bu,by rw[e1],cur,fz,by rw[e1];exact Array.getElem?_push_size,hn⟩
def Jj {cs:List CV}{cur:Array Value}(hl:VRL G w cs cur.toList){nl:Nat}:(cs.map LV.cv).length<=cur.size/\ ∀j x,(cs.map LV.cv)[j]? =some x->LVR G w L nl x (cur.getD j undef):=by obtain⟨e,hg⟩:=gE hl;refine⟨by simp at e |-; omega,λj x hx=> ?_⟩;simp only[gM,qn]at hx;obtain⟨c,hc,rfl⟩:=hx;obtain⟨v,hv,hr⟩:=hg j c hc;simp only[LVR];simp_all
def DF {cs:List CV}{cur:Array Value}{j b:Nat}: ¬fD (cs.map LV.cv) cur j b:=by rintro⟨x,hx,ho⟩;simp only[gM,qn]at hx;obtain⟨c,_,rfl⟩:=hx;simp[b6]at ho
def aeF {e:TypeId}(ho:o.op= .alloc e)(R:Rel G L s μ a.tmps w)(hd: ∀d,o.dst=some d->d<a.tmps.size)(hk:KOK L G w s μ a o.dst k r K)
 (hop:opt (zeroCells P e) (λcs=>k (Bk h.cell (bz h.take s).lam.length e cs.length) {bz h.take s with lam:=(bz h.take s).lam++[.cells (cs.map .cv)]} μ)=some r):o.wp P a w K Q:=by
 obtain⟨cs,h1,hop⟩:=bA.1 hop;obtain⟨R1,E1,_⟩:=fI R h.take;obtain⟨z,i,hi,hz,hrun,hl⟩:=mc (P:=P) (G:=G) (w:=w) h1;obtain⟨G1,R2,E2⟩:=l4 (o:=o) (kk:=0) (e:=e) R1 E1 hd (pg z.cells) (ob:= .cells (cs.map .cv)) (.inl ⟨_,rfl,Jj hl⟩)
  (λcs' j b he hc=>by injection he with he;subst he;exact absurd hc DF) (U2 (by have:=VRL_len hl;simpa using this.symm)) (λb hb=>by cases h.cell<;>simp[Bk,b6]at hb)
 refine eU ?_ (hk _ _ μ _ _ G1 hop R2 E2);simp only[execOp,ho];refine fX ?_;simp[Instr.alloc,hrun,newVar,newRow]
def mG {x:LV}{v:Value}{nl:Nat}{cs:List LV}(h:x.cells=some cs)(hv:LVR G w L nl x v):
 cs.length=v.cells.size/\(∀j y,cs[j]? =some y->LVR G w L nl y (v.cells.getD j undef))/\(∀u∈v.cells.toList,u.oneCell'=true)/\
 (∀j b,fD cs v.cells j b->j=0/\b6 x v b):=by
 have one: ∀(y:LV),y=x->cs=[y]->v.oneCell'=true->cs.length=v.cells.size/\(∀j y,cs[j]? =some y->LVR G w L nl y (v.cells.getD j undef))/\(∀u∈v.cells.toList,u.oneCell'=true)/\
  (∀j b,fD cs v.cells j b->j=0/\b6 x v b):=by
  rintro y rfl rfl h1;rw[J3 h1];refine⟨rfl,λj z hz=> ?_,by simpa using h1,?_⟩
  ·cases j with|zero=>simp only[ft,bP]at hz;subst hz;exact hv|succ j=>simp at hz
  ·rintro j b ⟨z,hz,ho⟩;cases j with|zero=>simp only[ft,bP]at hz;subst hz;exact⟨rfl,ho⟩|succ j=>simp at hz
 unfold LV.cells at h;split at h
 ·split at h<;>simp only[bP,reduceCtorEq]at h;rename_i hs;subst h;simp only[LVR]at hv;obtain⟨hl,h1⟩:=mq hs hv;refine⟨by have:=VRL_len hl;simpa using this,(Jj hl).2,h1,λj b hc=>absurd hc DF⟩
 ·simp at h
 ·simp only[bP]at h;rename_i n1 n2;refine one x rfl h.symm ?_;cases x<;>simp only[LVR]at hv
  ·exact absurd rfl (n1 _)
  ·rcases hv with⟨_,rfl⟩|⟨_,_,_,_,_,rfl,_⟩<;>rfl
  ·obtain⟨_,rfl⟩:=hv;rfl
  ·obtain⟨_,_,_,_,_,rfl,_⟩:=hv;rfl
  ·obtain⟨_,rfl,_⟩:=hv;rfl
  ·exact absurd rfl (n2 _)
  ·obtain⟨_,rfl⟩:=hv;rfl
  ·obtain⟨_,rfl,_⟩:=hv;rfl
  ·rcases hv with⟨_,rfl⟩|⟨_,_,_,_,rfl,_⟩<;>rfl
  ·obtain⟨_,_,rfl⟩:=hv;rfl
def ahY {e:TypeId}{x:Operand}(ho:o.op= .box e x)(R:Rel G L s μ a.tmps w)(hd: ∀d,o.dst=some d->d<a.tmps.size)(hk:KOK L G w s μ a o.dst k r K)
 (hop:wQ (dN P e) (evA h s.fr x) (λcs=>k (.loc (bz h.take s).lam.length 0) {bz h.take s with lam:=(bz h.take s).lam++[.cells cs]} μ)=some r):o.wp P a w K Q:=by
 rw[pM]at hop;obtain⟨cs,h0,hop⟩:=bA.1 hop;have h1:=pO h0;obtain⟨R1,E1,hO⟩:=fI R h.take;have hl:=cq h.take s;obtain⟨hv,hown⟩:=cG R h x;obtain⟨h2,h3,h4,h5⟩:=mG h1 hv;obtain⟨G1,R2,E2⟩:=l4 (o:=o) (kk:=0) (e:=e) R1 E1 hd (pg (a.eval x).cells) (ob:= .cells cs) (.inl ⟨_,rfl,bu,by rw[hl.1];exact h3⟩)
  (λcs' j b he hc => by
   injection he with he;subst he;obtain⟨hj,ho'⟩:=h5 j b hc;obtain⟨t,ht,hot⟩:=hown b ho';refine⟨⟨λl hl'=> ?_,λlev i hlv=> ?_,λj' hc'=>by rw[(h5 j' b hc').1,hj]⟩,.inl (.inl ⟨.fr t,hot⟩)⟩
   ·obtain⟨a1,a2⟩:=hO l b hl';exact a1 t ht (R.own l (.fr t) b a2 hot)
   ·rw[hl.1]at hlv
    exact R.apart (.fr t) b lev i hot hlv) TP (λb hb=>by simp[b6]at hb)
 refine eU ?_ (hk _ _ μ _ _ G1 hop R2 E2);simp only[execOp,ho];refine fX ?_;simp[Instr.box,newVar,newRow]
end
section
variable {P:Program}{ρ:Rho}{α:Type}{L:Nat}{G:Gh}{w:World}{s:S}{μ:Mu}{a:Act}{o:Oper}{h:OpHint}{k:LV->S->Mu->Option α}{p:CV->S->Mu->Option α}{r:α}{K:Act->World->Prop}{Q:Exit->Act->World->Prop}
def l0 {G0:Gh}{w0:World}{T0:Nat->Prop}(R:Rel G L s μ a.tmps w)(E:Ext L T0 G0 w0 G w (bM G w s μ a.tmps))(hd: ∀d,o.dst=some d->d<a.tmps.size)
 {ob:Obj} {n:Nat} {v:LV} {cv:Value} (hv:Le G w (G.setO w.heap.size n) (w.alloc ob)->LVR (G.setO w.heap.size n) (w.alloc ob) L s.lam.length v cv) (ho: ∀b,b6 v cv b->b=w.heap.size):
 ∃G1,Rel G1 L (s.put o.dst v) μ (a.put o.dst cv).tmps (w.alloc ob)/\Ext L T0 G0 w0 G1 (w.alloc ob) (bM G1 (w.alloc ob) (s.put o.dst v) μ (a.put o.dst cv).tmps):=by
 obtain⟨R1,hO⟩:=R.alloc ob n;have hT: ∀b,bM (G.setO w.heap.size n) (w.alloc ob) s μ a.tmps b->bM G w s μ a.tmps b:=by
  intro b hb;rcases hb with⟨l,hb⟩|hb
  ·exact .inl ⟨l,hO l b hb⟩
  ·exact .inr hb
 have E1:Ext L (bM G w s μ a.tmps) G w (G.setO w.heap.size n) (w.alloc ob) (bM (G.setO w.heap.size n) (w.alloc ob) s μ a.tmps):=Ext.alloc ob n λb hb=> .inl (hT b hb)
 obtain ⟨R2, E2⟩ := eQ (dst := o.dst) (v := v) (cv := cv) R1 (E.trans E1) (hv (xU ob n)) (λb hb => by
  have hb':=ho b hb;subst hb';refine⟨λl hl=> ?_,λlev i hl e=> ?_,.inr E.size⟩
  ·have:=R.touch_lt (.inl ⟨l,hO l _ hl⟩);omega
  ·have:=R.touch_lt (.inr ⟨lev,i,hl,e⟩)
   omega) hd
 grind
def Cl {α:Type}: ∀(l pre mid post:List α),mid.length=l.length->dG (pre++mid++post) pre.length l=pre++l++post
 |[],pre,mid,post,h=>by have:mid=[]:=iK (by simpa using h);subst this;rfl|x::l,pre,mid,post,h=>by
  cases mid with|nil=>simp at h|cons m mid=>simp only[dG];have e:(pre++m::mid++post).set pre.length x=(pre++[x])++mid++post:=bE;rw[e];have:=Cl l (pre++[x]) mid post (by simpa using h);simp_all
def JR {sz:Nat}: ∀{ps:List (Nat×CV)} {n:Nat} {xs:List CV},BJ sz n ps=some xs-> ∀pre:List CV,pre.length=n*sz->
 pT (λi=>some (i*sz,sz)) (pre++List.replicate (xs.length*sz) .undef) ps=some (pre++xs.flatMap CV.cells)/\ ∀x∈xs,x.cells.length=sz
 |[],n,xs,h,pre,hp=>by simp only[BJ,bP]at h;subst h;simp[pT]|(i,c)::ps,n,xs,h,pre,hp=>by
  simp only[BJ]at h;split at h<;>try(simp at h;done)
  rename_i hc;simp only[cE]at hc;have hi:=fb hc.1;have hl:=fb hc.2;obtain⟨ys,h1,h2⟩:=bA.1 h;simp only[bP]at h2;subst h2;subst hi;obtain⟨ih1,ih2⟩:=JR h1 (pre++c.cells) (by rw[ef,hp,hl,ow];omega);refine⟨?_,λx hx=> ?_⟩
  ·simp only[pT];have hlen:(pre++List.replicate ((c::ys).length*sz) CV.undef).length=i*sz+(ys.length+1)*sz:=by simp[hp]
   have hle:Nat.ble (i*sz+sz) (pre++List.replicate ((c::ys).length*sz) CV.undef).length=true:=by rw[hlen];exact I4 (by rw[ow ys.length];omega)
   have hb:(Nat.beq c.cells.length sz&&Nat.ble (i*sz+sz) (pre++List.replicate ((c::ys).length*sz) CV.undef).length)=true:=by simp_all
   rw[hb];have e:pre++List.replicate ((c::ys).length*sz) CV.undef=pre++List.replicate sz CV.undef++List.replicate (ys.length*sz) CV.undef:=by rw[hZ,List.replicate_append_replicate];grind
   have:=Cl c.cells pre (List.replicate sz CV.undef) (List.replicate (ys.length*sz) CV.undef) (by simp[hl]);simp_all
  grind
def Jk: ∀(vs:List Value),VRL G w (List.replicate vs.length .undef) vs
 |[]=>by simp[VRL]|v::r=>by simp only[dz,I8,VRL];exact⟨v,r,rfl,by simp[VR],Jk r⟩
def Ia {t e:TypeId}{sz len:Nat}{parts:Array (Nat×Operand)}{ps:List (Nat×CV)}{xs:List CV}{zc:List CV}(R:Rel G L s μ a.tmps w)(hu:P.underlying t=some (.slice e))(hsz:er P e=some sz)
 (hz:zeroCells P e=some zc) (hp:lr (evA h s.fr) parts.toList=some ps) (hx:BJ sz 0 ps=some xs) (hlen:xs.length=len) (hsm:len*sz<=10000):
 ∃cur:Array Value,(Instr.buildSlice t len (parts.map λq=>(q.1,a.eval q.2))).run P w= .ok (.slice (some ⟨w.heap.size,0,none⟩) len len) (w.alloc (.cells cur e))/\
  VRL G w (xs.flatMap CV.cells) cur.toList/\cur.size=len*sz/\ ∀x∈xs,x.cells.length=sz:=by
 obtain⟨z,i,hi,hzi,hzr,hzl⟩:=mc (P:=P) (G:=G) (w:=w) hz;have hpr:=wi R h hp;have hparts:(parts.map λq=>(q.1,a.eval q.2)).toList=parts.toList.map λq=>(q.1,a.eval q.2):=bE;obtain⟨hf,hall⟩:=JR hx [] bE;simp only[eR]at hf;have hfill: ∀zz:Array Value,∃b:Array Value,Instr.fill (λi=>some (i*sz,sz)) ((Array.range (len*sz)).map (zz[· % zz.size]!)) (parts.toList.map λq=>(q.1,a.eval q.2))=some b/\VRL G w (xs.flatMap CV.cells) b.toList/\b.size=len*sz:=by
  intro zz;have hvl:VRL G w (List.replicate (xs.length*sz) CV.undef) ((Array.range (len*sz)).map (zz[· % zz.size]!)).toList:=by have:=Jk (G:=G) (w:=w) ((Array.range (len*sz)).map (zz[· % zz.size]!)).toList;simp_all
  obtain⟨b,hb,hr,hbs⟩:=yP hpr hvl hf;simp_all
 have h24: ¬len*sz>2^24:=bu;by_cases h0:len*sz=0
 ·obtain⟨b,hb,hr,hbs⟩:=hfill #[];refine⟨b,?_,hr,hbs,hall⟩;simp only[Instr.buildSlice,dk,df hu,dq,ge hsz,bB h24,bC h0,fA,hparts,hb,newRow,run_newObj];rfl
 ·obtain⟨b,hb,hr,hbs⟩:=hfill z.cells;refine⟨b,?_,hr,hbs,hall⟩;simp only[Instr.buildSlice,dk,df hu,dq,ge hsz,bB h24,bB h0,hzr,fA,hparts,hb,newRow,run_newObj];rfl
def L4 {t e:TypeId}{len sz:Nat}{parts:Array (Nat×Operand)}{ps:List (Nat×CV)}{xs zc:List CV}(ho:o.op= .buildSlice t len parts)(R:Rel G L s μ a.tmps w)(hd: ∀d,o.dst=some d->d<a.tmps.size)(hk:KOK L G w s μ a o.dst k r K)
 (hu:P.underlying t=some (.slice e)) (hsz:er P e=some sz) (hby:oU P e=true) (hz:zeroCells P e=some zc) (hp:lr (evA h s.fr) parts.toList=some ps) (hx:BJ sz 0 ps=some xs) (hlen:xs.length=len) (hsm:len*sz<=10000) (hbt:(Nat.beq e 5||jw xs)=true)
 (hop : (match h.arr with
  |false=>k (.osl xs) (bz h.take s) μ
  |true=>k (.lsl (bz h.take s).lam.length 0 len) {bz h.take s with lam:=(bz h.take s).lam++[.arr sz (xs.flatMap CV.cells)]} μ)=some r):o.wp P a w K Q:=by
 obtain⟨R1,E1,hO⟩:=fI R h.take;obtain⟨cur,hrun,hl,hcs,hall⟩:=Ia R hu hsz hz hp hx hlen hsm;have hrun':(execOp a.eval o).run P w= .ok (.value (.slice (some ⟨w.heap.size,0,none⟩) len len)) (w.alloc (.cells cur e)):=by simp only[execOp,ho];exact fX hrun
 have hsz1:1<=sz:=by
  unfold oU at hby
  unfold er at hsz;split at hby<;>try(simp at hby;done)
  rename_i i hi;rw[hi]at hsz;simp only[bP,cE]at hsz hby
  have:=gr hby.2;omega
 have hlm:len<=10000:=iN (IX len hsz1) hsm;split at hop
 ·obtain ⟨G1, R2, E2⟩ := l0 (o := o) (n := len * sz) (ob := .cells cur e) (v := .osl xs) (cv := .slice (some ⟨w.heap.size, 0, none⟩) len len) R1 E1 hd (λhle => by
   simp only[LVR];refine .inr ⟨w.heap.size,len,cur,e,sz,by rw[hlen],lz w _,bu,by unfold maxLen;omega,bu,hall,λh0=>by subst h0;simpa using hlen.symm,?_,by rw[fS,hlen],Jz hbt⟩;obtain⟨hlen2,hg⟩:=gE hl;refine EL_of (vs:=cur.toList) hall (jD hlen2 λj c v hc hv=> ?_) λj v hv=> ?_
   ·obtain⟨v',hv',hr⟩:=hg j c hc;rw[hv]at hv';injection hv' with hv';subst hv';exact de hle c v hr
   ·have hj:j<cur.size:=by have:=(dP.1 hv).1;simpa using this
    rw[fZ,fS];refine⟨?_,bu⟩;rw[cell_of_heap (lz w (.cells cur e)) hj];rw[sE]at hv
    simp[ex,hv]) (λb hb=>by simpa[b6]using hb.symm)
  exact eU hrun' (hk _ _ μ _ _ G1 hop R2 E2)
 ·obtain ⟨G1, R2, E2⟩ := l4 (o := o) (kk := sz) (e := e) R1 E1 hd (pg cur) (ob := .arr sz (xs.flatMap CV.cells)) (.inr ⟨_, rfl, by have := VRL_len hl; simp at this |-; omega, λj x hx => by
   obtain⟨v,hv,hr⟩:=(gE hl).2 j x hx;have:cur.getD j undef=v:=by rw[sE]at hv;simp[ex,hv]
   rw[this];exact hr⟩)
   (λcs' j b he hc => by cases he) (v := .lsl (bz h.take s).lam.length 0 len) (cv := .slice (some ⟨w.heap.size, 0, none⟩) len len) (λG1 w1 hG hw => by
    subst hG;subst hw;simp only[LVR];refine⟨bu,len,cur,e,(0,0),by simp[Gh.setL],ct _,by unfold maxLen;omega,?_,?_⟩
    ·simp only[Gh.setL,nT,cQ];exact lz w _
    ·simp only[Gh.setL,nT,cQ];omega) (λb hb=>by simp[b6]at hb)
  exact eU hrun' (hk _ _ μ _ _ G1 hop R2 E2)
def agd {e:TypeId}{x:Operand}(ho:o.op= .box e x)(R:Rel G L s μ a.tmps w)(hd: ∀d,o.dst=some d->d<a.tmps.size)(hk:KOK L G w s μ a o.dst k r K)
 (hop:opt (cW (evA h s.fr x)) (λc=>bD (uS (dN P e) c) (k (.cv (.view (tz (pK (dN P e) c)))) (bz h.take s) μ))=some r):o.wp P a w K Q:=by
 obtain⟨c,h1,hop⟩:=bA.1 hop;obtain⟨h2,hop⟩:=bR.1 hop;obtain⟨e1,e2⟩:=zy h2;rw[e2]at hop;obtain⟨R1,E1,hO⟩:=fI R h.take;have hv:=ji h1 (cG R h x).1;obtain⟨hl,hone⟩:=mq e1 hv;obtain⟨hlen,hg⟩:=gE hl
 obtain ⟨G1, R2, E2⟩ := l0 (o := o) (n := (a.eval x).cells.size) (ob := .cells (a.eval x).cells e) (v := .cv (.view (tz c.cells))) (cv := .pointer (some ⟨w.heap.size, 0, none⟩)) R1 E1 hd (λhle => by
  simp only[LVR,VR];refine⟨w.heap.size,0,rfl,CL_of λj y hy=> ?_⟩;obtain⟨y',hy',hyy⟩:=vN hy;obtain⟨u,hu,hr⟩:=hg j y' hy';have hj:j<(a.eval x).cells.size:=by have:=(dP.1 hu).1;simpa using this
  refine⟨u,?_,by rw[fS];omega,hyy _ _ u (de hle y' u hr)⟩;rw[fZ,cell_of_heap (lz w _) hj];rw[sE]at hu
  simp[ex,hu]) (λb hb=>by simp[b6]at hb)
 refine eU ?_ (hk _ _ μ _ _ G1 hop R2 E2);simp only[execOp,ho];refine fX ?_;simp[Instr.box,newVar,newRow]
def FC {α:Type}(z:List α): ∀n,(uO n z).length=n*z.length
 |0=>by simp[uO]|n+1=>by have:=FC z n;simp only[uO,I8,List.flatten_cons,ef]at this |-;grind
def OY {α:Type}(z:List α)(hz:0<z.length): ∀(n j:Nat),j<n*z.length->(uO n z)[j]? =z[j % z.length]?
 |0,j,h=>by simp at h|n+1,j,h=>by
  have e:uO (n+1) z=z++uO n z:=by simp[uO,I8]
  rw[e];by_cases hj:j<z.length
  ·rw[gK hj,Nat.mod_eq_of_lt hj]
  ·rw[jy bu,OY z hz n (j-z.length) (by rw[ow]at h;omega)];congr 1
   conv=>rhs;rw[show j=j-z.length+z.length by omega,Nat.add_mod_right]
def PB {t:TypeId}{l c:Operand}(ho:o.op= .makeSlice t l c)(hsame:IM l c=true)(R:Rel G L s μ a.tmps w)(hd: ∀d,o.dst=some d->d<a.tmps.size)(hk:KOK L G w s μ a o.dst k r K)
 (hop:GU P t (evA h s.fr l) (bz h.take s) μ k=some r):o.wp P a w K Q:=by
 have hlc:l=c:=by
  unfold IM at hsame;split at hsame
  ·rw[fb hsame]
  ·cases hsame
 subst hlc;unfold GU at hop;split at hop<;>try(simp at hop;done)
 rename_i e hu;obtain⟨sz,hsz,hop⟩:=bA.1 hop;obtain⟨hby,hop⟩:=bR.1 hop;obtain⟨zc,hz,hop⟩:=bA.1 hop;obtain⟨hzl,hop⟩:=bR.1 hop;obtain⟨n,hn,hop⟩:=bA.1 hop;obtain⟨hg,hop⟩:=bR.1 hop;simp only[cE,dA]at hg;have hzl:=fb hzl;obtain⟨kk,hni⟩:=rR hn;have hv:=eV R hni;simp only[VR]at hv;obtain⟨i,hi,his⟩:=Hs hsz;obtain⟨z,i',hi',hiz,hzr,hzv⟩:=mc (P:=P) (G:=G) (w:=w) hz;rw[hi]at hi';injection hi' with hi';subst hi';have hbb:i.bytes<=128/\1<=i.size:=by
  unfold oU at hby
  rw[hi]at hby
  simp only[cE]at hby
  exact⟨gr hby.1,gr hby.2⟩
 have hzs:z.cells.size=sz:=by have:=VRL_len hzv;simp at this;omega
 have hrun:=run_makeSlice (P:=P) w t e i z hu hi hiz kk kk n n hg.1 (Dw n);obtain⟨R1,E1,hO⟩:=fI R h.take;have hl:=cq h.take s;have hms:n.toNat*i.size=n.toNat*sz:=by rw[his]
 have hrun':(execOp a.eval o).run P w= .ok (.value (.slice (some ⟨w.heap.size,0,none⟩) n.toNat n.toNat)) (w.alloc (.cells (madeCells z.cells (n.toNat*sz)) e)):=by simp only[execOp,ho,hv];refine fX ?_;have hb0:(i.bytes:Int)*n<=128*1000000000:=Int.mul_le_mul bu hg.2 hg.1 bu;rw[<-hms];exact run_make w t e i z hu hi hiz kk kk n n hg.1 (Dw n) bu bu
 have hget: ∀(j:Nat) x,(uO n.toNat zc)[j]? =some x->VR G w x ((madeCells z.cells (n.toNat*sz)).getD j undef):=by
  intro j x hx;have hj:j<(uO n.toNat zc).length:=(dP.1 hx).1;rw[FC,hzl]at hj;have hzp:0<zc.length:=bu;rw[OY zc hzp _ _ (by rw[hzl];exact hj),hzl]at hx;obtain⟨v,hv1,hv2⟩:=(gE hzv).2 _ x hx;rw[sE]at hv1;have hm:(madeCells z.cells (n.toNat*sz)).getD j undef=v:=by
   have hjs:j % sz<z.cells.size:=by rw[hzs];exact Nat.mod_lt _ bu
   have:z.cells[j % sz]! =v:=by rw[getElem!_pos z.cells (j % sz) hjs];rw[xO hjs]at hv1;exact iM hv1
   have h2:(madeCells z.cells (n.toNat*sz))[j]? =some (z.cells[j % z.cells.size]!):=by simp[madeCells,hj]
   rw[ex,h2,hzs];exact this
  rw[hm];exact hv2
 obtain⟨G1,R2,E2⟩:=l4 (o:=o) (kk:=sz) (e:=e) R1 E1 hd (pg (madeCells z.cells (n.toNat*sz))) (ob:= .arr sz (uO n.toNat zc)) (.inr ⟨_,rfl,by rw[FC,hzl,size_madeCells];exact ct _,hget⟩)
  (λcs' j b he hc => by cases he) (v := .lsl (bz h.take s).lam.length 0 n.toNat) (cv := .slice (some ⟨w.heap.size, 0, none⟩) n.toNat n.toNat) (λG1 w1 hG hw => by
   subst hG;subst hw;simp only[LVR];refine⟨bu,n.toNat,madeCells z.cells (n.toNat*sz),e,(0,0),by simp[Gh.setL],ct _,by unfold maxLen;omega,?_,?_⟩
   ·simp only[Gh.setL,nT,cQ];exact lz w _
   ·simp only[Gh.setL,nT,cQ,size_madeCells];omega) (λb hb=>by simp[b6]at hb)
 exact eU hrun' (hk _ _ μ _ _ G1 hop R2 E2)
def Vt (c:Array Value)(e:TypeId):((w.alloc (.cells c e)).freeze ⟨w.heap.size,c.size,none⟩ 1)=w.alloc (.cells c e (c.size,c.size+1)):=by simp only[World.freeze,World.alloc,Nat.one_ne_zero,du];congr 1;grind
def ju (l:List UInt8):List Value:=l.map λb=> .int .u8 (b.toNat:Int)
def nu (l:List UInt8)(n:Nat):Array Value:=(ju l++List.replicate n (Value.int .u8 0)).toArray
def L1 (l:List UInt8)(n:Nat):(nu l n).size=l.length+n:=by simp[nu,ju]
def Pb {src dst e:TypeId}{l:List UInt8}(hu:P.underlying dst=some (.slice e))(hue:P.underlying e=some (.int .u8))(hs:P.underlying src=some .string)(hl:l.length<=1099511627776):
 ∃(cap:Nat) (cur:Array Value),(convert src dst (.string ⟨⟨l⟩⟩)).run P w= .ok (.slice (some ⟨w.heap.size,0,none⟩) l.length cap) (w.drew.alloc (.cells cur e (cur.size,cur.size+1)))/\
  l.length<=cap/\cap<=maxLen/\cur.size=cap/\ ∀(j:Nat) b,l[j]? =some b->cur.getD j undef= .int .u8 (b.toNat:Int):=by
 have hge:=grownCap_ge w l.length 0 e;have hle:=Jb w l.length 0 e (by unfold maxLen;omega);refine⟨grownCap w l.length 0 e,nu l (grownCap w l.length 0 e-l.length),?_,hge,hle,by rw[L1];omega,?_⟩
 ·simp only[convert,dk,df hu,df hue,df hs,dq,Conv.stringToBytes,run_choose,Question.forced,d6,du];have hsz:(⟨⟨l⟩⟩:ByteArray).size=l.length:=rfl;rw[hsz];have hg:Question.cut (Question.appendCap l.length 0 e) (w.tape w.drawn (Question.appendCap l.length 0 e))=grownCap w l.length 0 e:=rfl;rw[hg];have harr:(Array.map (λ(b:UInt8)=>Value.int .u8 (b.toNat:Int)) (⟨⟨l⟩⟩:ByteArray).data++Array.replicate (grownCap w l.length 0 e-l.length) (Value.int .u8 0))=
   nu l (grownCap w l.length 0 e-l.length):=by
   apply Array.ext';simp[nu,ju]
  simp only[harr,newRow,dk,run_newObj,dq,fA,markStringish,run_shape,World.alloc_eq,World.drew_eq,World.size_drew];have hsh:(w.drew.alloc (.cells (nu l (grownCap w l.length 0 e-l.length)) e)).shape? w.heap.size=some (e,(nu l (grownCap w l.length 0 e-l.length)).size):=by simp only[World.shape?];rw[show w.heap.size=w.drew.heap.size from rfl,lz]
  simp only[hsh,run_freeze,dq];have:=Vt (w:=w.drew) (nu l (grownCap w l.length 0 e-l.length)) e;simp_all
 ·intro j b hb;have hj:j<l.length:=(dP.1 hb).1;have hj':(ju l)[j]? =some (Value.int .u8 (b.toNat:Int)):=by simp[ju,hb]
  have hjl:j<(ju l).length:=by simpa[ju]using hj
  simp only[nu,ex,I6,gK hjl,hj',ia]
def yK: ∀l:List UInt8,(l.map λ(b:UInt8)=>CV.v (.int .u8 (b.toNat:Int))).flatMap CV.cells=l.map λ(b:UInt8)=>CV.v (.int .u8 (b.toNat:Int))
 |[]=>rfl|b::l=>by simp only[dr,tZ,yK l,CV.cells];rfl
def Vc {src dst e:TypeId}{x:Operand}{l:List UInt8}(ho:o.op= .convert src dst x)(R:Rel G L s μ a.tmps w)(hd: ∀d,o.dst=some d->d<a.tmps.size)(hk:KOK L G w s μ a o.dst k r K)
 (hu:P.underlying dst=some (.slice e)) (hue:P.underlying e=some (.int .u8)) (hs:P.underlying src=some .string) (he:evA h s.fr x=LV.str l) (hsm:small l.length=true)
 (hop : (match h.arr with
  |true=>k (.lsl (bz h.take s).lam.length 0 l.length) {bz h.take s with lam:=(bz h.take s).lam++[.arr 1 (l.map λb=> .v (.int .u8 (b.toNat:Int)))]} μ
  |false=>k (.cv (.sl (l.map λb=> .v (.int .u8 (b.toNat:Int))))) (bz h.take s) μ)=some r):o.wp P a w K Q:=by
 obtain⟨R1,E1,hO⟩:=fI R h.take;have hv:=eV R he;simp only[VR]at hv;simp only[small,dA]at hsm;obtain⟨cap,cur,hrun,h1,h2,h3,h4⟩:=Pb (P:=P) (w:=w) hu hue hs hsm;have hrun':(execOp a.eval o).run P w= .ok (.value (.slice (some ⟨w.heap.size,0,none⟩) l.length cap)) (w.drew.alloc (.cells cur e (cur.size,cur.size+1))):=by simp only[execOp,ho,hv];exact fX hrun
 obtain⟨R2,hO2⟩:=R1.drew;have E2:Ext L (bM G w s μ a.tmps) G w G w.drew (bM G w.drew (bz h.take s) μ a.tmps):=by
  refine E1.drew.weaken (λ_ h=>h) λb hb=> ?_;rcases hb with⟨l,hb⟩|hb
  ·exact .inl ⟨l,hO2 l b hb⟩
  ·exact .inr hb
 have hfz:iQ cur (cur.size,cur.size+1):=λj hj h=>by simp at h;omega
 have hcells: ∀(j:Nat) c,(l.map λ(b:UInt8)=>CV.v (.int .u8 (b.toNat:Int)))[j]? =some c-> ∃b,l[j]? =some b/\c= .v (.int .u8 (b.toNat:Int)):=by simp_all
 split at hop
 ·obtain ⟨G1, R3, E3⟩ := l4 (o := o) (kk := 1) (e := e) R2 E2 hd hfz (ob := .arr 1 (l.map λb => .v (.int .u8 (b.toNat : Int)))) (.inr ⟨_, rfl, b7, λj x hx => by
   obtain⟨b,hb,rfl⟩:=hcells j x hx;simp only[VR]
   exact h4 j b hb⟩)
   (λcs' j b he hc => by cases he) (v := .lsl (bz h.take s).lam.length 0 l.length) (cv := .slice (some ⟨w.heap.size, 0, none⟩) l.length cap) (λG1 w1 hG hw => by
    subst hG;subst hw;simp only[LVR];refine⟨bu,cap,cur,e,(cur.size,cur.size+1),by simp[Gh.setL],h1,h2,?_,?_⟩
    ·simp only[Gh.setL,nT,cQ];exact lz w.drew _
    ·simp only[Gh.setL,nT,cQ];omega) (λb hb=>by simp[b6]at hb)
  exact eU hrun' (hk _ _ μ _ _ G1 hop R3 E3)
 ·obtain ⟨G1, R3, E3⟩ := l0 (o := o) (n := cur.size) (ob := .cells cur e (cur.size, cur.size + 1)) (v := .cv (.sl (l.map λb => .v (.int .u8 (b.toNat : Int))))) (cv := .slice (some ⟨w.heap.size, 0, none⟩) l.length cap) R2 E2 hd (λhle => by
   simp only[LVR,VR];refine⟨_,l.length,cap,rfl,bE,h1,.inr ⟨w.heap.size,0,1,rfl,λx hx=> ?_,?_⟩⟩
   ·obtain⟨b,_,rfl⟩:=ph.1 hx;rfl
   ·have hflat:=yK l;refine EL_of (vs:=(List.range l.length).map λj=>cur.getD j undef) (λx hx=>by obtain⟨b,_,rfl⟩:=ph.1 hx;rfl) ?_ λj v hv=> ?_
    ·rw[hflat];refine jD bE λj c v hc hv=> ?_;obtain⟨b,hb,rfl⟩:=hcells j c hc;have hj:j<l.length:=(dP.1 hb).1;simp only[gM,tY hj,gN,bP]at hv;simp only[VR];rw[<-hv];exact h4 j b hb
    ·have hj:j<l.length:=by have:=(dP.1 hv).1;simpa using this
     simp only[gM,tY hj,gN,bP]at hv;rw[fZ,<-hv];refine⟨cell_of_heap (lz w.drew _) bu,?_⟩
     rw[show w.heap.size=w.drew.heap.size from rfl,fS];omega) (λb hb=>by simp[b6]at hb)
  exact eU hrun' (hk _ _ μ _ _ G1 hop R3 E3)
end
def Gh.cut (G:Gh)(m:Nat):Gh:={G with n:=λl=>if l<m then G.n l else 0}
section
variable {G:Gh}{w:World}{lev m:Nat}
def da {n:Nat}{c:CV}{r:List CV}(h:dp n (c::r)=true):below n c=true/\dp n r=true:=by simp only[dp]at h;grind
mutual
def iI: ∀(c:CV) (v:Value),below m c=true->VR G w c v->VR (G.cut m) w c v
 | .undef,v,_,_=>by simp[VR]| .v x,v,_,hv=>by simpa[VR]using hv| .agg cs,v,hb,hv=>by simp only[VR,below]at hv hb |-;obtain⟨vs,e,hl⟩:=hv;exact⟨vs,e,wJ cs _ hb hl⟩
 | .sl xs,v,hb,hv=>by simp only[VR,below]at hv hb |-;obtain⟨A,len,cap,e,h1,h2,h3⟩:=hv;refine⟨A,len,cap,e,h1,h2,h3.imp id ?_⟩;rintro⟨b,off,s,e1,hs,hl⟩;exact⟨b,off,s,e1,hs,jX b s off xs hb hl⟩
 | .view cs,v,hb,hv=>by simp only[VR,below]at hv hb |-;obtain⟨b,off,e,hl⟩:=hv;exact⟨b,off,e,K6 b off cs hb hl⟩
 | .ref l i off,v,hb,hv=>by simp only[VR,below,dA]at hv hb |-;exact⟨by simp only[Gh.cut];rw[bC hb];exact hv.1,hv.2⟩| .msl l i off len,v,hb,hv=>by simp only[VR,below,dA]at hv hb |-;exact⟨by simp only[Gh.cut];rw[bC hb];exact hv.1,hv.2⟩| .mview ks vs,v,hb,hv=>by simp only[VR,below]at hv hb |-;obtain⟨r,es,clk,e,h1,h2,h3,h4⟩:=hv;exact⟨r,es,clk,e,h1,h2,h3,wJ vs _ hb h4⟩
 | .mref l i,v,hb,hv=>by simp only[VR,below,dA]at hv hb |-;exact⟨by simp only[Gh.cut];rw[bC hb];exact hv.1,hv.2⟩| .tref l i t n,v,hb,hv=>by simp only[VR,below,dA]at hv hb |-;exact⟨by simp only[Gh.cut];rw[bC hb];exact hv.1,hv.2⟩| .clo f caps,v,hb,hv=>by simp only[VR,below]at hv hb |-;obtain⟨vs,e,hl⟩:=hv;exact⟨vs,e,wJ caps _ hb hl⟩
 | .iface t x,v,hb,hv=>by simp only[VR,below]at hv hb |-;obtain⟨u,e,hl⟩:=hv;exact⟨u,e,iI x u hb hl⟩
def wJ: ∀(cs:List CV) (vs:List Value),dp m cs=true->VRL G w cs vs->VRL (G.cut m) w cs vs
 |[],vs,_,hv=>by simpa[VRL]using hv|c::cs,vs,hb,hv=>by simp only[VRL]at hv |-;obtain⟨v,r,e,h1,h2⟩:=hv;exact⟨v,r,e,iI c v (da hb).1 h1,wJ cs r (da hb).2 h2⟩
def K6 (b:Nat): ∀(off:Nat) (cs:List CV),dp m cs=true->CL G w b off cs->CL (G.cut m) w b off cs
 |_,[],_,_=>by simp[CL]|off,c::cs,hb,hv=>by simp only[CL]at hv |-;obtain⟨⟨v,hc,ho,h1⟩,h2⟩:=hv;exact⟨⟨v,hc,ho,iI c v (da hb).1 h1⟩,K6 _ (off+1) cs (da hb).2 h2⟩
def jX (b s:Nat): ∀(off:Nat) (cs:List CV),dp m cs=true->EL G w b s off cs->EL (G.cut m) w b s off cs
 |_,[],_,_=>by simp[EL]|off,.agg cs::r,hb,hv=>by simp only[EL]at hv |-;exact⟨K6 b off cs (by simpa[below]using(da hb).1) hv.1,jX b s (off+s) r (da hb).2 hv.2⟩|off,.undef::r,hb,hv=>by simp only[EL]at hv |-;obtain⟨⟨v,hc,ho,h1⟩,h2⟩:=hv;exact⟨⟨v,hc,ho,by simp[VR]⟩,jX _ s (off+s) r (da hb).2 h2⟩
 |off,.v x::r,hb,hv=>by simp only[EL]at hv |-;obtain⟨⟨v,hc,ho,h1⟩,h2⟩:=hv;exact⟨⟨v,hc,ho,iI (.v x) v (da hb).1 h1⟩,jX _ s (off+s) r (da hb).2 h2⟩
 |off,.sl x::r,hb,hv=>by simp only[EL]at hv |-;obtain⟨⟨v,hc,ho,h1⟩,h2⟩:=hv;exact⟨⟨v,hc,ho,iI (.sl x) v (da hb).1 h1⟩,jX _ s (off+s) r (da hb).2 h2⟩
 |off,.view x::r,hb,hv=>by simp only[EL]at hv |-;obtain⟨⟨v,hc,ho,h1⟩,h2⟩:=hv;exact⟨⟨v,hc,ho,iI (.view x) v (da hb).1 h1⟩,jX _ s (off+s) r (da hb).2 h2⟩
 |off,.ref x y z::r,hb,hv=>by simp only[EL]at hv |-;obtain⟨⟨v,hc,ho,h1⟩,h2⟩:=hv;exact⟨⟨v,hc,ho,iI (.ref x y z) v (da hb).1 h1⟩,jX _ s (off+s) r (da hb).2 h2⟩
 |off,.msl x y z l::r,hb,hv=>by simp only[EL]at hv |-;obtain⟨⟨v,hc,ho,h1⟩,h2⟩:=hv;exact⟨⟨v,hc,ho,iI (.msl x y z l) v (da hb).1 h1⟩,jX _ s (off+s) r (da hb).2 h2⟩
 |off,.mview x y::r,hb,hv=>by simp only[EL]at hv |-;obtain⟨⟨v,hc,ho,h1⟩,h2⟩:=hv;exact⟨⟨v,hc,ho,iI (.mview x y) v (da hb).1 h1⟩,jX _ s (off+s) r (da hb).2 h2⟩
 |off,.mref x y::r,hb,hv=>by simp only[EL]at hv |-;obtain⟨⟨v,hc,ho,h1⟩,h2⟩:=hv;exact⟨⟨v,hc,ho,iI (.mref x y) v (da hb).1 h1⟩,jX _ s (off+s) r (da hb).2 h2⟩
 |off,.tref x y t n::r,hb,hv=>by simp only[EL]at hv |-;obtain⟨⟨v,hc,ho,h1⟩,h2⟩:=hv;exact⟨⟨v,hc,ho,iI (.tref x y t n) v (da hb).1 h1⟩,jX _ s (off+s) r (da hb).2 h2⟩
 |off,.clo f x::r,hb,hv=>by simp only[EL]at hv |-;obtain⟨⟨v,hc,ho,h1⟩,h2⟩:=hv;exact⟨⟨v,hc,ho,iI (.clo f x) v (da hb).1 h1⟩,jX _ s (off+s) r (da hb).2 h2⟩
 |off,.iface t x::r,hb,hv=>by simp only[EL]at hv |-;obtain⟨⟨v,hc,ho,h1⟩,h2⟩:=hv;exact⟨⟨v,hc,ho,iI (.iface t x) v (da hb).1 h1⟩,jX _ s (off+s) r (da hb).2 h2⟩
end
def Bn:G.below lev=G.cut (lev+1):=by simp only[Gh.below,Gh.cut,Nat.lt_succ_iff]
def LN (c:CV)(v:Value)(hb:below (lev+1) c=true)(h:VR G w c v):VR (G.below lev) w c v:=by rw[Bn];exact iI c v hb h
def abu (b s off:Nat)(cs:List CV)(hb:dp (lev+1) cs=true)(h:EL G w b s off cs):EL (G.below lev) w b s off cs:=by rw[Bn];exact jX b s off cs hb h
def Ji {xs:List CV}{v:Value}(hb:dp m xs=true)(h:pp G w xs v):pp (G.cut m) w xs v:=by
 rcases h with h|⟨b,cap,cur,e,s,h1,h2,h3,h4,h5,h6,h7,h8,h9,h10⟩
 ·exact .inl h
 ·exact .inr ⟨b,cap,cur,e,s,h1,h2,h3,h4,h5,h6,h7,jX b s 0 xs hb h8,h9,h10⟩
def Pn {xs:List CV}{v:Value}(hb:dp (lev+1) xs=true)(h:pp G w xs v):pp (G.below lev) w xs v:=by
 rcases h with h|⟨b,cap,cur,e,s,h1,h2,h3,h4,h5,h6,h7,h8,h9,h10⟩
 ·exact .inl h
 ·exact .inr ⟨b,cap,cur,e,s,h1,h2,h3,h4,h5,h6,h7,abu b s 0 xs hb h8,h9,h10⟩
def XC {L nl nl':Nat}{x:LV}{v:Value}(hb:IG lev x=true)(h:LVR G w L nl x v):LVR (G.below lev) w lev nl' x v:=by
 cases x<;>simp only[IG,d6]at hb<;>simp only[LVR]at h |-
 ·exact LN _ _ hb h
 ·exact Pn hb h
end
section
variable {P:Program}{ρ:Rho}{α:Type}{L:Nat}{G:Gh}{w:World}{s:S}{μ:Mu}{a:Act}{o:Oper}{h:OpHint}{k:LV->S->Mu->Option α}{p:CV->S->Mu->Option α}{r:α}{K:Act->World->Prop}{Q:Exit->Act->World->Prop}
def WS {x:Sem Unit}{w':World}(h:x.run P w= .ok () w'):(do x;pure Next.skip:Sem Next).run P w= .ok .skip w':=by simp_all
def ls {cur:Array Value}{off:Nat}{vs:List Value}{j:Nat}(h:off+vs.length<=cur.size)(hj:j<vs.length):(d5 cur off vs).getD (off+j) undef=vs.getD j undef:=by have:=Cf vs off cur j h hj;simp_all
def jr {cur:Array Value}{off:Nat}{vs:List Value}{j:Nat}(h:j<off\/off+vs.length<=j):(d5 cur off vs).getD j undef=cur.getD j undef:=by
 simp only[ex];rcases h with h|h
 ·rw[qf vs off cur j h]
 ·rw[uN vs off cur j h]
def zU {n:Nat}{c:CV}(h:fJ n c=true):c.cells.length=n/\jt c=true:=by simp only[fJ,cE]at h;simp_all
def obW (b:Bool)(n:Nat)(o:Ob)(off:Nat)(v:LV):Option Ob:=
 match o with
 | .cells cs=>opt (uv b v) λvs=>match Nat.beq vs.length n&&Nat.ble (off+n) cs.length with
  |true=>some (.cells (dG cs off vs))|false=>none
 | .arr sz cs=>opt (cW v) λc=>match fJ n c&&Nat.ble (off+n) cs.length with
  |true=>some (.arr sz (dG cs off c.cells))|false=>none
 | .dead=>none| .map _ _=>none
def aaw {P:Program}{t:TypeId}{o o':Ob}{off:Nat}{v:LV}(h:dv P t o off v=some o'): ∃n,er P t=some n/\obW (dN P t) n o off v=some o':=by
 cases o with
 |dead=>cases h|map ks vs=>cases h|cells cs=>simp only[dv]at h;obtain⟨vs,h1,h⟩:=bA.1 h;obtain⟨n,h2,h⟩:=bA.1 h;exact⟨n,h2,bA.2 ⟨vs,h1,h⟩⟩
 |arr sz cs=>simp only[dv]at h;obtain⟨c,h1,h⟩:=bA.1 h;obtain⟨n,h2,h⟩:=bA.1 h;exact⟨n,h2,bA.2 ⟨c,h1,h⟩⟩
def Rel.writeW {G0:Gh}{w0:World}{tm:Array Value}{T0:Nat->Prop}{s1:S}{μ1:Mu}{lev i off:Nat}{ob o':Ob}{v:LV}{cv:Value}{bb:Bool}{n:Nat}(R:Rel G L s μ tm w)
 (E:Ext L T0 G0 w0 G w (bM G w s μ tm)) (hob:bT (μ++[s.lam]) lev i=ob) (hw:obW bb n ob off v=some o')
 (hv:(lev=L->LVR G w L s.lam.length v cv)/\(lev<L->LVR (G.below lev) w lev 0 v cv))
 (hown: ∀b,b6 v cv b->(∀l,¬bK G w s.fr tm (μ++[s.lam]) l b)/\(∀lev i,b8 (bT (μ++[s.lam]) lev i)->G.β lev i≠b)/\(T0 b\/w0.heap.size<=b))
 (hfr:s1.fr=s.fr) (hp:s1.pushed=s.pushed) (hlen:s1.lam.length=s.lam.length) (hμlen:μ1.length=μ.length) (hH:μ1++[s1.lam]=cx (μ++[s.lam]) lev i o'):
 ∃w',cv.cells.size=n/\(storeCells ⟨G.β lev i,off,none⟩ cv.cells.toList).run P w= .ok () w'/\Rel G L s1 μ1 tm w'/\Ext L T0 G0 w0 G w' (bM G w' s1 μ1 tm):=by
 have hl:b8 (bT (μ++[s.lam]) lev i):=by rw[hob];cases ob<;>first|trivial|simp[obW]at hw
 have hlvl:lev=L\/lev<L:=by rcases fF R.lev hl with⟨h1,_⟩|⟨h1,_⟩<;>omega
 have hobr:(lev=L->ObR G w L s.lam.length (G.β lev i) (G.sz lev i) ob)/\(lev<L->ObR (G.below lev) w lev 0 (G.β lev i) (G.sz lev i) ob):=by
  rcases fF R.lev hl with⟨h1,h2⟩|⟨rfl,h1,h2⟩
  ·refine⟨λe=>by omega,λ_=> ?_⟩;rw[<-hob,h2];exact R.mu lev i h1
  ·refine⟨λ_=> ?_,λe=>by omega⟩;rw[<-hob,h2];exact R.lam i
 have hblk: ∃cur e fz,w.heap[G.β lev i]? =some (.cells cur e fz)/\iQ cur fz/\G.O (G.β lev i)=0/\(∀cs,ob= .cells cs->cs.length<=cur.size)/\(∀k cs,ob= .arr k cs->k=G.sz lev i/\cs.length<=cur.size):=by
  rcases hlvl with e|e
  ·have:=hobr.1 e;cases ob with
   |dead=>simp[obW]at hw|map ks vs=>simp[obW]at hw|cells cs=>simp only[ObR]at this;obtain⟨cur,e,fz,h1,h2,h3,h4,_⟩:=this;exact⟨cur,e,fz,h1,h2,h3,λ_ hc=>by injection hc with hc;subst hc;exact h4,λ_ _ hc=>by cases hc⟩
   |arr kk cs=>simp only[ObR]at this;obtain⟨hk,cur,e,fz,h1,h2,h3,h4,_⟩:=this;exact⟨cur,e,fz,h1,h2,h3,λ_ hc=>(by cases hc),λ_ _ hc=>(by injection hc with hc hc';subst hc;subst hc';exact⟨hk,h4⟩)⟩
  ·have:=hobr.2 e;cases ob with
   |dead=>simp[obW]at hw|map ks vs=>simp[obW]at hw|cells cs=>simp only[ObR]at this;obtain⟨cur,e,fz,h1,h2,h3,h4,_⟩:=this;exact⟨cur,e,fz,h1,h2,h3,λ_ hc=>by injection hc with hc;subst hc;exact h4,λ_ _ hc=>by cases hc⟩
   |arr kk cs=>simp only[ObR]at this;obtain⟨hk,cur,e,fz,h1,h2,h3,h4,_⟩:=this;exact⟨cur,e,fz,h1,h2,h3,λ_ hc=>(by cases hc),λ_ _ hc=>(by injection hc with hc hc';subst hc;subst hc';exact⟨hk,h4⟩)⟩
 obtain⟨cur,e,fz,hb,hu,hO,hc1,hc2⟩:=hblk;have hsz:cv.cells.size=n/\off+n<=cur.size/\(∀u∈cv.cells.toList,u.oneCell'=true):=by
  cases ob with
  |dead=>simp[obW]at hw|map ks vs=>simp[obW]at hw|cells cs=>
   simp only[obW]at hw;obtain⟨vs,h1,hw⟩:=bA.1 hw;split at hw<;>simp only[bP,reduceCtorEq]at hw;rename_i hc;simp only[cE]at hc;have hcn:=fb hc.1;have hle:=gr hc.2;have:=hc1 cs rfl;rcases hlvl with e|e
   ·obtain⟨h2,h3,h4,h5⟩:=mG (pO h1) (hv.1 e);exact⟨bu,bu,h4⟩
   ·obtain⟨h2,h3,h4,h5⟩:=mG (pO h1) (hv.2 e);exact⟨bu,bu,h4⟩
  |arr kk cs=>
   simp only[obW]at hw;obtain⟨c,h1,hw⟩:=bA.1 hw;split at hw<;>simp only[bP,reduceCtorEq]at hw;rename_i hc;simp only[cE]at hc;obtain⟨hcn,hso⟩:=zU hc.1;have hle:=gr hc.2;have:=(hc2 kk cs rfl).2;rcases hlvl with e|e
   ·obtain⟨h2,h3⟩:=mq hso (ji h1 (hv.1 e));have:=VRL_len h2;exact⟨by simp at this;omega,bu,h3⟩
   ·obtain⟨h2,h3⟩:=mq hso (ji h1 (hv.2 e));have:=VRL_len h2;exact⟨by simp at this;omega,bu,h3⟩
 obtain⟨hcn,hfit,hone⟩:=hsz;have hrun:(storeCells ⟨G.β lev i,off,none⟩ cv.cells.toList).run P w= .ok () (w.setRow (G.β lev i) (d5 cur off cv.cells.toList)):=by have:=qX (P:=P) (G.β lev i) off e fz cv.cells.toList 0 cur w hb hu (by simpa[hcn]using hfit) hone;simpa only[j8]using this
 have hvl:cv.cells.toList.length=n:=by simpa using hcn
 refine⟨_,hcn,hrun,?_⟩;have hownβ: ∀b,b6 v cv b->b≠G.β lev i:=λb hb e=>(hown b hb).2.1 lev i hl e.symm;have hcell: ∀cs' k b,o'= .cells cs'->fD cs' (d5 cur off cv.cells.toList) k b->
  (bK G w s.fr tm (μ++[s.lam]) (.ob lev i k) b/\(k<off\/off+n<=k))\/(k=off/\b6 v cv b):=by
  rintro cs' k b rfl ⟨x,hx,hox⟩;cases ob with
  |dead=>simp[obW]at hw|map ks vs=>simp[obW]at hw|arr kk cs=>simp only[obW]at hw;obtain⟨c,h1,hw⟩:=bA.1 hw;split at hw<;>simp at hw
  |cells cs=>
   simp only[obW]at hw;obtain⟨vs,h1,hw⟩:=bA.1 hw;split at hw<;>simp only[bP,reduceCtorEq,Ob.cells.injEq]at hw;rename_i hc;simp only[cE]at hc;have hvn:=fb hc.1;have hle:=gr hc.2;subst hw;have hlr: ∃(G2:Gh) (L2 nl2:Nat),LVR G2 w L2 nl2 v cv:=by
    rcases hlvl with e|e
    ·exact⟨_,_,_,hv.1 e⟩
    ·exact⟨_,_,_,hv.2 e⟩
   obtain⟨G2,L2,nl2,hlr⟩:=hlr;obtain⟨h2,h3,h4,h5⟩:=mG (pO h1) hlr;by_cases hk:k<off\/off+n<=k
   ·left;rw[jr (by rw[hvl];exact hk)]at hox;have hx':cs[k]? =some x:=by
     rcases hk with hk|hk
     ·rw[jV vs off cs k hk]at hx;exact hx
     ·rw[lu vs off cs k bu]at hx;exact hx
    refine⟨?_,hk⟩;simp only[bK,hob,hx'];exact⟨cur,e,fz,hb,hox⟩
   ·right;obtain⟨j,rfl⟩: ∃j,k=off+j:=⟨k-off,bu⟩;rw[ls bu bu]at hox;rw[og vs off cs j bu bu]at hx
    have : fD vs cv.cells j b := ⟨x, hx, by
     rw[gi,sE]at hox
     rw[ex];exact hox⟩
    obtain⟨hj,ho⟩:=h5 j b this;exact⟨bu,ho⟩
 have hnew: ∀G' w',Le G w G' w'->G'=G->w'=w.setRow (G.β lev i) (d5 cur off cv.cells.toList)-> ∀(G2:Gh) (L2 nl2:Nat),(∀l i,G2.β l i=G.β l i)->G2.O=G.O->Le G2 w G2 w'->ObR G2 w L2 nl2 (G.β lev i) (G.sz lev i) ob->
  LVR G2 w L2 nl2 v cv->ObR G2 w' L2 nl2 (G.β lev i) (G.sz lev i) o':=by
  intro G' w' _ hG' hw' G2 L2 nl2 hβ2 hO2 hle2 hr hvr;subst hw';have hnh:=ra w (G.β lev i) cur (d5 cur off cv.cells.toList) e fz hb;have hkeep: ∀b,b≠G.β lev i->(w.setRow (G.β lev i) (d5 cur off cv.cells.toList)).heap[b]? =w.heap[b]? :=λb h=>pi w _ b _ h;have hun:iQ (d5 cur off cv.cells.toList) fz:=λj hj=>hu j (by simpa[fN]using hj);cases ob with
  |dead=>simp[obW]at hw|map ks vs=>simp[obW]at hw|cells cs=>
   simp only[obW]at hw;obtain⟨vs,h1,hw⟩:=bA.1 hw;split at hw<;>simp only[bP,reduceCtorEq]at hw;rename_i hc;simp only[cE]at hc;have hvn:=fb hc.1;have hle:=gr hc.2;subst hw;obtain⟨h2,h3,h4,h5⟩:=mG (pO h1) hvr;simp only[ObR]at hr |-;obtain⟨cur2,e2,fz2,hb2,_,_,hcs,hr⟩:=hr;rw[hb]at hb2;obtain⟨rfl,rfl,rfl⟩:=(kV ..).mp (iM hb2);refine⟨_,e,fz,hnh,hun,by rw[hO2];exact hO,by rw[qi,fN];exact hcs,λk x hx=> ?_⟩;by_cases hk:k<off\/off+n<=k
   ·rw[jr (by rw[hvl];exact hk)];have hx':cs[k]? =some x:=by
     rcases hk with hk|hk
     ·rw[jV vs off cs k hk]at hx;exact hx
     ·rw[lu vs off cs k bu]at hx;exact hx
    refine ga hle2 (ct _) (λ_ _=>⟨rfl,rfl⟩) x _ (λb hox=>⟨hkeep b λeb=> ?_,rfl⟩) (hr k x hx');subst eb;refine R.apart (.ob lev i k) _ lev i ?_ hl rfl;simp only[bK,hob,hx'];exact⟨cur,e,fz,hb,hox⟩
   ·obtain⟨j,rfl⟩: ∃j,k=off+j:=⟨k-off,bu⟩;rw[ls bu bu];rw[og vs off cs j bu bu]at hx;have hgd:cv.cells.toList.getD j undef=cv.cells.getD j undef:=by rw[gi,sE,ex]
    rw[hgd];refine ga hle2 (ct _) (λ_ _=>⟨rfl,rfl⟩) x _ (λb hox=>⟨hkeep b (hownβ b (h5 j b ⟨x,hx,hox⟩).2),rfl⟩) (h3 j x hx)
  |arr kk cs=>
   simp only[obW]at hw;obtain⟨c,h1,hw⟩:=bA.1 hw;split at hw<;>simp only[bP,reduceCtorEq]at hw;rename_i hc;simp only[cE]at hc;obtain⟨hvn,hso⟩:=zU hc.1;have hle:=gr hc.2;subst hw;obtain⟨h2,h3⟩:=mq hso (ji h1 hvr);simp only[ObR]at hr |-;obtain⟨hkk,cur2,e2,fz2,hb2,_,_,hcs,hr⟩:=hr;rw[hb]at hb2;obtain⟨rfl,rfl,rfl⟩:=(kV ..).mp (iM hb2);refine⟨hkk,_,e,fz,hnh,hun,by rw[hO2];exact hO,by rw[qi,fN];exact hcs,λk x hx=> ?_⟩;by_cases hk:k<off\/off+n<=k
   ·rw[jr (by rw[hvl];exact hk)];have hx':cs[k]? =some x:=by
     rcases hk with hk|hk
     ·rw[jV c.cells off cs k hk]at hx;exact hx
     ·rw[lu c.cells off cs k bu]at hx;exact hx
    exact de hle2 x _ (hr k x hx')
   ·obtain⟨j,rfl⟩: ∃j,k=off+j:=⟨k-off,bu⟩;rw[ls bu bu];rw[og c.cells off cs j bu bu]at hx;obtain⟨u,hu1,hu2⟩:=(gE h2).2 j x hx;rw[gi,hu1];exact de hle2 x _ hu2
 obtain⟨R1,hle,hT,hO1,hO2,hlv⟩:=R.setOb (s1:=s1) (μ1:=μ1) (o':=o') (cur':=d5 cur off cv.cells.toList) hl hb (fN _ _ _) hfr hp hlen hμlen hH
  (λG' w' hle hG hw' => ⟨λe => by
   have hle':Le G w G w':=by rw[hG]at hle;exact hle
   rw[hG];exact hnew G' w' hle hG hw' G L s.lam.length (λ_ _=>rfl) rfl hle' (hobr.1 e) (hv.1 e),
   λe=>by
    have hle':Le G w G w':=by rw[hG]at hle;exact hle
    rw[hG];exact hnew G' w' hle hG hw' (G.below lev) lev 0 (λ_ _=>rfl) rfl (hle'.below lev) (hobr.2 e) (hv.2 e)⟩)
  (λcs' k b he hco => by
   rcases hcell cs' k b he hco with⟨h1,_⟩|⟨h1,h2⟩
   ·exact .inl h1
   ·refine .inr ⟨(hown b h2).1,(hown b h2).2.1,λk' hk'=> ?_⟩;rcases hcell cs' k' b he hk' with⟨h3,_⟩|⟨h3,_⟩
    ·exact absurd h3 ((hown b h2).1 _)
    ·omega)
 refine⟨R1,E.le.trans hle,E.os,E.tape,E.output,by simpa using E.size,λb hb hn=> ?_,λb hb=> ?_,E.lev⟩
 ·obtain⟨h1,h2⟩:=E.keep b hb hn;refine⟨?_,h2⟩;rw[<-h1];refine pi w _ b _ λeb=> ?_;subst eb;rcases E.grow _ (.inr ⟨lev,i,hl,rfl⟩)with h|h
  ·exact hn h
  ·omega
 ·rcases hT b hb with h1|⟨cs',k,he,hco⟩
  ·exact E.grow b h1
  ·rcases hcell cs' k b he hco with⟨h1,_⟩|⟨_,h1⟩
   ·exact E.grow b (.inl ⟨_,h1⟩)
   ·exact(hown b h1).2.2
def Rel.writeOb {G0:Gh}{w0:World}{tm:Array Value}{T0:Nat->Prop}{s1:S}{μ1:Mu}{lev i off:Nat}{ob o':Ob}{v:LV}{cv:Value}{t:TypeId}(R:Rel G L s μ tm w)
 (E:Ext L T0 G0 w0 G w (bM G w s μ tm)) (hob:bT (μ++[s.lam]) lev i=ob) (hw:dv P t ob off v=some o')
 (hv:(lev=L->LVR G w L s.lam.length v cv)/\(lev<L->LVR (G.below lev) w lev 0 v cv))
 (hown: ∀b,b6 v cv b->(∀l,¬bK G w s.fr tm (μ++[s.lam]) l b)/\(∀lev i,b8 (bT (μ++[s.lam]) lev i)->G.β lev i≠b)/\(T0 b\/w0.heap.size<=b))
 (hfr:s1.fr=s.fr) (hp:s1.pushed=s.pushed) (hlen:s1.lam.length=s.lam.length) (hμlen:μ1.length=μ.length) (hH:μ1++[s1.lam]=cx (μ++[s.lam]) lev i o'):
 ∃w',(storeVar t ⟨G.β lev i,off,none⟩ cv).run P w= .ok () w'/\Rel G L s1 μ1 tm w'/\Ext L T0 G0 w0 G w' (bM G w' s1 μ1 tm):=by
 obtain⟨n,hn,hw'⟩:=aaw hw;obtain⟨w',h1,h2,h3,h4⟩:=R.writeW (P:=P) (s1:=s1) (μ1:=μ1) E hob hw' hv hown hfr hp hlen hμlen hH;refine⟨w',?_,h3,h4⟩;simp only[storeVar,dk,ge hn,dq,h1,ne_eq,xC,du,h2]
def aeM {t:TypeId}{x y:Operand}(ho:o.op= .store t x y)(R:Rel G L s μ a.tmps w)(hd: ∀d,o.dst=some d->d<a.tmps.size)(hk:KOK L G w s μ a o.dst k r K)
 (hop:mb P h t (evA h s.fr x) (evA h s.fr y) (bz h.take s) μ k=some r):o.wp P a w K Q:=by
 obtain⟨R1,E1,hO⟩:=fI R h.take;have hl:=cq h.take s;obtain⟨hv,hown⟩:=cG R h y;have hown': ∀b,b6 (evA h s.fr y) (a.eval y) b->(∀l,¬bK G w (bz h.take s).fr a.tmps (μ++[(bz h.take s).lam]) l b)/\(∀lev i,b8 (bT (μ++[(bz h.take s).lam]) lev i)->G.β lev i≠b)/\(bM G w s μ a.tmps b\/w.heap.size<=b):=by
  intro b hb;obtain⟨tt,ht,hot⟩:=hown b hb;refine⟨λl hl'=> ?_,λlev i hlv=> ?_,.inl (.inl ⟨.fr tt,hot⟩)⟩
  ·obtain⟨a1,a2⟩:=hO l b hl';exact a1 tt ht (R.own l (.fr tt) b a2 hot)
  ·rw[hl.1]at hlv;exact R.apart (.fr tt) b lev i hot hlv
 unfold mb at hop;split at hop
 ·rename_i i off he;have hx:=(cG R h x).1;rw[he]at hx;simp only[LVR]at hx;split at hop<;>try(simp at hop;done)
  rw[rt]at hop;obtain⟨o',h1,h2⟩:=bA.1 hop;obtain⟨w',hrun,R2,E2⟩:=R1.writeOb (P:=P) (s1:={bz h.take s with lam:=(bz h.take s).lam.set i o'}) (μ1:=μ) (lev:=L) (i:=i) (off:=off) (cv:=a.eval y) E1 (by rw[<-R.lev];exact db) h1
   ⟨λ_=>by rw[hl.1];exact hv,λe=>by omega⟩ hown' rfl rfl bE rfl (by rw[<-R.lev];exact m0.symm)
  obtain⟨R3,E3⟩:=eQ (dst:=o.dst) (v:= .cv .undef) (cv:=undef) R2 E2 (by simp[LVR,VR]) (λb hb=>by simp[b6]at hb) hd;refine tI ?_ (hk _ _ _ _ w' G h2 R3 E3);simp only[execOp,ho,hx.2];refine WS ?_;simp only[Instr.storeAt,Instr.sureAddr,dk,fA,dq,hrun]
 ·split at hop<;>try(simp at hop;done)
  obtain⟨q,hc,hop⟩:=bA.1 hop;have hx:=eV R (vF hc);simp only[VR]at hx;obtain⟨hok,hop⟩:=bR.1 hop;obtain⟨o',h1,h2⟩:=bA.1 hop;have hq:q.1<μ.length:=by
   by_cases hq:q.1<μ.length
   ·exact hq
   ·simp only[ce]at h1;rw[eB bu]at h1;simp[dv]at h1
  obtain⟨w',hrun,R2,E2⟩:=R1.writeOb (P:=P) (s1:=bz h.take s) (μ1:=cx μ q.1 q.2.1 o') (lev:=q.1) (i:=q.2.1) (off:=q.2.2) (cv:=a.eval y) E1 (cV hq) h1
   ⟨λe=>by rw[R.lev]at hq;omega,λ_=>XC hok hv⟩ hown' rfl rfl rfl lG.1 (m3 hq).symm
  obtain⟨R3,E3⟩:=eQ (dst:=o.dst) (v:= .cv .undef) (cv:=undef) R2 E2 (by simp[LVR,VR]) (λb hb=>by simp[b6]at hb) hd;refine tI ?_ (hk _ _ _ _ w' G h2 R3 E3);simp only[execOp,ho,hx.2];refine WS ?_;simp only[Instr.storeAt,Instr.sureAddr,dk,fA,dq,hrun]
 ·simp at hop
end
end Go.Abs
