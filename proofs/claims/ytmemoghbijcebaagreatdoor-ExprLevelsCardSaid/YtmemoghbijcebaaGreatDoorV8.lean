/-
  The statement ExprLevelsCardSaid, proved; part 9 of 11 of its proof.
-/
import Derived.Test.YtmemoghbijcebaaGreatDoorV7
import Derived.Test.YtmemoghbijcebaaGreatDoorV4
set_option linter.all false
set_option maxRecDepth 100000
namespace Go.Abs
open Go Go.Proofs
noncomputable def ovE (X:FuncId->Option g8):Env:={E with prim:=λf=>match X f with|some g=>some g|none=>E.prim f}
def UK {X:FuncId->Option g8}{ρ:Rho}{f:FuncId}{args:List LV}{μ:Mu}(h:X f=none):bN (ovE X) ρ f args μ=bN E ρ f args μ:=by unfold bN ovE;dsimp only;rw[h]
def UL {X:FuncId->Option g8}{ρ:Rho}{f:FuncId}{args:List LV}{μ:Mu}{g:g8}(h:X f=some g):bN (ovE X) ρ f args μ=g args μ:=by unfold bN ovE;dsimp only;rw[h]
def KN {X:FuncId->Option g8}(hX: ∀f g args μ out,X f=some g->g args μ=some out->(ev E).call f args μ=some out): ∀n,LimR (λ_=>ev E) (evn (ovE X) n)
 |0=>⟨λf args μ r h=>(by simp[evn]at h),λH lv c s μ r h=>(by simp[evn]at h),λH lv c s μ r h=>(by simp[evn]at h),λf pv args μ r h=>(by simp[evn]at h)⟩|n+1=>by
  have ih:=KN hX n;refine⟨λf args μ r h=>⟨0,λ_ _=> ?_⟩,λH lv c s μ r h=>⟨0,λ_ _=> ?_⟩,λH lv c s μ r h=>⟨0,λ_ _=> ?_⟩,λf pv args μ r h=>⟨0,λ_ _=> ?_⟩⟩
  ·have h:bN (ovE X) (evn (ovE X) n) f args μ=some r:=h;cases hx:X f with
   |some g=>rw[UL hx]at h;exact hX f g args μ r hx h|none=>rw[UK hx]at h;obtain⟨N,hN⟩:=zk ih (E:=E) (f:=f) (args:=args) (μ:=μ) r h;exact b8 (hN N (cw _))
  ·obtain⟨N,hN⟩:=D1 ih (P:=E.P) (H:=H) (lv:=lv) (c:=c) (s:=s) (μ:=μ) r h;exact OK (hN N (cw _))
  ·obtain⟨N,hN⟩:=JC ih (P:=E.P) (H:=H) (lv:=lv) (c:=c) (s:=s) (μ:=μ) r h;exact Tp (hN N (cw _))
  ·obtain⟨N,hN⟩:=xI ih (E:=E) (f:=f) (pv:=pv) (args:=args) (μ:=μ) r h;exact sN (hN N (cw _))
def nM {X:FuncId->Option g8}(hX: ∀f g args μ out,X f=some g->g args μ=some out->(ev E).call f args μ=some out){n:Nat}{f:FuncId}{args:List LV}{μ:Mu}{out:Out}(h:(evn (ovE X) n).call f args μ=some out):(ev E).call f args μ=some out:=by obtain⟨N,hN⟩:=(KN hX n).call f args μ out h;exact hN N (cw _)
def jm (a:Int)(b:List UInt8):Nat->Nat->Option Nat
 |0,_=>none|m+1,k=>if mV k=2/\cz k≠[]/\lvl k=a/\cz k=b then some k else jm a b m (k+1)
def KL (a:Int)(b:List UInt8):LV:=match jm a b 25 0 with|some k=> .ltup [bv (k:Int),LV.bool true]|none=> .ltup [bv 0,LV.bool false]
section
variable {μ:Mu}
def Zc {a:Int}{b:List UInt8}: ∀(m k:Nat),k+m=25->uJ (ev E) a b ij (k:Int) μ=some (match jm a b m k with|some j=>yP (j:Int) true μ|none=>yQ μ):=by
 intro m
 induction m with
 |zero=>intro k hk;refine dy ?_;rw[J3,show decide ((k:Int)<25)=false by simp;omega,bW];rfl|succ m ih=>
  intro k hk;refine dy ?_;rw[J3,show decide ((k:Int)<25)=true by simp;omega,bY,nQ bu bu,gU bu,ih (k+1) bu,jm];revert ih;generalize cz (k:Int)=tx;intro ih;by_cases h4:tx=b
  ·subst h4;by_cases h1:mV (k:Int)=2<;>by_cases h2:tx=[]<;>by_cases h3:lvl (k:Int)=a<;>simp[h1,h2,h3]
  ·by_cases h1:mV (k:Int)=2<;>by_cases h2:tx=[]<;>by_cases h3:lvl (k:Int)=a<;>simp[h1,h2,h3,h4]
def Jz {a:Int}{b:List UInt8}:(ev E).call 163 [bv a,LV.str b] μ=some (.ret (KL a b) μ):=by
 refine b8 ?_;have h:=Zc (μ:=μ) (a:=a) (b:=b) 25 0 rfl;have e0:((0:Nat):Int)=0:=rfl;rw[e0]at h;have eag:fJ (LV.cv (CV.agg ij))=some ij:=rfl;rw[acm,tY,bL,eag,bA,h,bA];unfold KL;cases jm a b 25 0 with|some j=>exact M0 _ _ _ _|none=>exact M1 _ _
end
def O8:g8:=λargs μ=>opt (bS args) λ_=>some (.ret (LV.cv (CV.agg ij)) μ)
def Yk:g8:=λargs μ=>opt (bC args) λq=>opt (bC q.2) λr=>opt (bS r.2) λ_=>opt (bI .i64 q.1) λa=>opt (cf r.1) λb=>some (.ret (KL a b) μ)
def xe:FuncId->Option g8
 |69=>some O8|163=>some Yk|_=>none
def pU: ∀f g args μ out,xe f=some g->g args μ=some out->(ev E).call f args μ=some out:=by
 intro f g args μ out hf h;unfold xe at hf;split at hf
 ·injection hf with hf;subst hf;unfold O8 at h;obtain⟨u,h1,h2⟩:=cK h;rw[iq h1];injection h2 with h2;subst h2;exact tY
 ·injection hf with hf;subst hf;unfold Yk at h;obtain⟨q,h1,h⟩:=cK h;obtain⟨r,h2,h⟩:=cK h;obtain⟨u,h3,h⟩:=cK h;obtain⟨a,h4,h⟩:=cK h;obtain⟨b,h5,h⟩:=cK h;injection h with h;subst h;rw[eI h1,eI h2,iq h3,wQ h4,jN h5];exact Jz
 ·cases hf
def opR:List Tok->List UInt8
 |x::_=>if x.kind=2 then x.text else []|[]=>[]
def dD (s:List UInt8)(r:List Tok):Option (List Tok):=if opR r=s then some r.tail else none
abbrev PR (α:Type):=Option (Option (α×List Tok))
def eR {α β:Type}(x:PR α)(k:α->List Tok->PR β):PR β:=match x with
 |none=>none|some none=>some none|some (some q)=>k q.1 q.2
def fT {α:Type}(a:α)(r:List Tok):PR α:=some (some (a,r))
def failP {α:Type}:PR α:=some none
def nA {α:Type}(s:List UInt8)(r:List Tok)(k:List Tok->PR α):PR α:=match dD s r with
 |some r=>k r|none=>failP
def un (k:Int)(t:T):T:= .mk k 0 [] [some t]
def bin (k:Int)(t u:T):T:= .mk k 0 [] [some t,some u]
def HR (r:List Tok):Bool:=decide (opR r=[58])||decide (opR r=[44])||decide (opR r=[41])
mutual
def dv:Nat->Nat->List Tok->PR T
 |0,_,_=>none|f+1,n,r=>
  if n=10 then jC f r
  else if n=9 then eR (jC f r) λt r=>match dD [42,42] r with
   |some r=>eR (dv f 9 r) λu r=>fT (bin 9 t u) r|none=>fT t r
  else if n=4 then match dD [46,78,79,84,46] r with
   |some r=>eR (dv f 4 r) λu r=>fT (un 8 u) r|none=>dv f 5 r
  else if n=5 then eR (dv f 6 r) λt r=>match jm 5 (opR r) 25 0 with
   |some k=>eR (dv f 6 r.tail) λu r=>fT (bin k t u) r|none=>fT t r
  else eR (gW f n r) λt r=>iF f n t r
def gW:Nat->Nat->List Tok->PR T
 |0,_,_=>none|f+1,n,r=>
  if n=7 then match dD [43] r with
   |some r=>eR (dv f 8 r) λu r=>fT (un 6 u) r|none=>match dD [45] r with
    |some r=>eR (dv f 8 r) λu r=>fT (un 7 u) r|none=>dv f (n+1) r
  else dv f (n+1) r
def iF:Nat->Nat->T->List Tok->PR T
 |0,_,_,_=>none|f+1,n,t,r=>match jm n (opR r) 25 0 with
  |some k=>eR (dv f (n+1) r.tail) λu r=>iF f n (bin k t u) r|none=>fT t r
def jC:Nat->List Tok->PR T
 |0,_=>none|f+1,r=>match r with
  |[]=>failP|x::r=>
   if x.kind=1 then fT (.mk 0 x.type x.text []) r
   else if x.kind=0 then match dD [40] r with
    |some r=>eR (jB f [] r) λl r=>fT (.mk 2 0 x.text (l.map some)) r|none=>fT (.mk 1 0 x.text []) r
   else if x.text=[40]then eR (dv f 1 r) λt r=>match dD [44] r with
    |some r=>eR (dv f 1 r) λu r=>if ib t&&ib u then nA [41] r λr=>fT (bin 4 t u) r else failP|none=>nA [41] r λr=>fT (un 5 t) r
   else failP
def jB:Nat->List T->List Tok->PR (List T)
 |0,_,_=>none|f+1,acc,r=>eR (nc f r) λa r=>match dD [44] r with
  |some r=>jB f (acc++[a]) r|none=>nA [41] r λr=>fT (acc++[a]) r
def jU:Nat->List Tok->PR (Option T)
 |0,_=>none|f+1,r=>if HR r then fT none r else eR (dv f 1 r) λt r=>fT (some t) r
def nc:Nat->List Tok->PR T
 |0,_=>none|f+1,r=>eR (jU f r) λa r=>match dD [58] r with
  |none=>match a with
   |some t=>fT t r|none=>failP
  |some r=>eR (jU f r) λb r=>match dD [58] r with
   |some r=>eR (dv f 1 r) λc r=>fT (.mk 3 0 [] [a,b,some c]) r|none=>fT (.mk 3 0 [] [a,b,none]) r
end
def rO (l:List Tok)(n:Nat):Ob:= .cells [LV.cv (CV.sl (cj l)),bv (n:Int)]
def fF:CV:=CV.iface 137 (CV.agg [bD (7:Int)])
def rS (μ:Mu)(lv i:Nat)(l:List Tok)(n:Nat):Mu:=cq μ lv i (rO l n)
section
variable {μ:Mu}{lv i n:Nat}{l:List Tok}
def FQ {a b:LV}:cD E.P 35 (.cells [a,b]) 0=some (strip a):=bx
def H0 {a b:LV}:cD E.P 3 (.cells [a,b]) 1=some (strip b):=bx
def Yu {a b:LV}{n:Int}:du E.P 3 (.cells [a,b]) 1 (bv n)=some (.cells [a,bv n]):=bx
def xy (l:List Tok):(cj l).length=l.length:=by simp[cj]
def EG {l:List Tok}{n:Nat}:dr (cj l) (n:Int)=(l[n]?).map Tok.cv:=by rw[mt];simp[cj]
theorem xj {β:Type}{x:Tok}{k:Int->Int->List UInt8->Option β}:jo (LV.cv x.cv) k=k x.kind x.type x.text:=rfl
def DY (h:b7 μ lv i=rO l n):(ev E).call 164 [LV.cv (CV.ref lv i 0)] μ=some (.ret (LV.str (opR (l.drop n))) μ):=by
 refine b8 ?_;rw[acn,h];unfold rO;have e1: ∀m:Int,strip (bv m)=bv m:=λ_=>rfl;have e2:strip (LV.cv (CV.sl (cj l)))=LV.cv (CV.sl (cj l)):=rfl;simp only[H0,FQ,e1,e2,bA,dH,u1,xy];by_cases hn:n<l.length
 ·rw[show decide ((n:Int)<(l.length:Int))=true by simp;omega,bY,EG,dA hn,d8,bA,xj,iM hn,opR];by_cases hk:l[n].kind=2
  ·rw[cu hk,bY,bK hk,bA,xj]
  ·rw[cE hk,bW,bE hk]
 ·rw[show decide ((n:Int)<(l.length:Int))=false by simp;omega,bW,gX bu];rfl
def acT (h:b7 μ lv i=rO l n)(m:Nat):b7 (rS μ lv i l m) lv i=rO l m:=by unfold rS;rw[nI (by rw[h];trivial),bK ⟨rfl,rfl⟩]
def xi {m k:Nat}:rS (rS μ lv i l m) lv i l k=rS μ lv i l k:=jP
def w9 {μ:Mu}{lv i:Nat}{o:Ob}(h:b7 μ lv i=o)(hl:b6 o):cq μ lv i o=μ:=by
 unfold b7 at h;unfold cq;cases hx:μ[lv]? with
 |none=>rfl|some x=>
  rw[hx]at h;dsimp only at h |-;obtain⟨h1,h2⟩:=dm.1 hx;cases hy:x[i]? with
  |none=>rw[hy]at h;subst h;exact hl.elim|some y=>rw[hy]at h;dsimp only at h;subst h;obtain⟨h3,h4⟩:=dm.1 hy;subst h2 h4;rw[List.set_getElem_self,List.set_getElem_self]
def FO (h:b7 μ lv i=rO l n):rS μ lv i l n=μ:=w9 h trivial
def UW (m:Nat):(rS μ lv i l m).length=μ.length:=kU.1
def VN {β:Type}(h:b7 μ lv i=rO l n)(hn:n<=1000000000){k:Ob->Option β}:(opt (cD E.P 3 (b7 μ lv i) 1) λv6=>opt (bI .i64 v6) λn7=>opt (du E.P 3 (b7 μ lv i) 1 (bv (IntKind.wrap .i64 (n7+(1:Int))))) k)=k (rO l (n+1)):=by rw[h];unfold rO;have e1: ∀m:Int,strip (bv m)=bv m:=λ_=>rfl;simp only[H0,e1,bA,dH,Yu];rw[gU hn]
def qH (h:b7 μ lv i=rO l n)(hn:n<=1000000000){s:List UInt8}:(ev E).call 162 [LV.cv (CV.ref lv i 0),LV.str s] μ=some (match dD s (l.drop n)with|some _=> .ret (LV.bool true) (rS μ lv i l (n+1))|none=> .ret (LV.bool false) μ):=by
 refine b8 ?_;rw[acl,DY h,bL,dw,bA];unfold dD;by_cases ho:opR (l.drop n)=s
 ·rw[cu ho,db,bW,bK ho];have:RN (ev E) lv i μ=some (ye true (rS μ lv i l (n+1))):=by refine cm ?_;rw[WF,VN h hn];rfl
  rw[this,bA];exact Ma _ _ _
 ·rw[cE ho,dF,bY,bE ho]
def u5:(ev E).call 183 [] μ=some (.panic fF μ):=by refine b8 ?_;rw[acr];rfl
def aav (h:b7 μ lv i=rO l n)(hn:n<=1000000000){s:List UInt8}:(ev E).call 185 [LV.cv (CV.ref lv i 0),LV.str s] μ=some (match dD s (l.drop n)with|some _=> .ret (LV.ltup []) (rS μ lv i l (n+1))|none=> .panic fF μ):=by
 refine b8 ?_;rw[act,qH h hn];cases dD s (l.drop n)with|some _=>rfl|none=>dsimp only;rw[bL,da,bA,dF,bY,u5,d5];rfl
end
section
variable {μ:Mu}{lv i n:Nat}{l:List Tok}
structure Rdr (μ:Mu) (lv i:Nat) (l:List Tok) (n:Nat):Prop where
 ob:b7 μ lv i=rO l n
 le:n<=l.length
 few:l.length<=100000
 lt:lv<μ.length
def Rdr.to (h:Rdr μ lv i l n){m:Nat}(hm:m<=l.length):Rdr (rS μ lv i l m) lv i l m:=⟨acT h.ob m,hm,h.few,by rw[UW];exact h.lt⟩
def Rdr.small (h:Rdr μ lv i l n):n<=1000000000:=by have:=h.le;have:=h.few;omega
def cg {α γ:Type}(μ:Mu)(lv i:Nat)(l:List Tok)(res:Option (α×List Tok))(good:α->Mu->γ)(bad:Mu->γ)(x:Option γ):Prop:=match res with
 |some q=> ∃n,q.2=l.drop n/\n<=l.length/\x=some (good q.1 (rS μ lv i l n))|none=> ∃n,x=some (bad (rS μ lv i l n))
def cg.up {α γ:Type}{m:Nat}{res:Option (α×List Tok)}{good:α->Mu->γ}{bad:Mu->γ}{x:Option γ}(h:cg (rS μ lv i l m) lv i l res good bad x):cg μ lv i l res good bad x:=by
 unfold cg at h |-;cases res with
 |none=>obtain⟨n,h⟩:=h;exact⟨n,by rw[h,xi]⟩
 |some q=>obtain⟨n,a,b,h⟩:=h;exact⟨n,a,b,by rw[h,xi]⟩
def eH (t:T)(μ:Mu):Out:= .ret (LV.cv t.cv) μ
def hJ (μ:Mu):Out:= .panic fF μ
def iR {α β:Type}{x:PR α}{k:α->List Tok->PR β}{res:Option (β×List Tok)}(h:eR x k=some res):(x=some none/\res=none)\/ ∃a r,x=some (some (a,r))/\k a r=some res:=by
 cases x with
 |none=>cases h|some y=>
  cases y with
  |none=>injection h with h;exact .inl ⟨rfl,h.symm⟩
  |some q=>exact .inr ⟨q.1,q.2,rfl,h⟩
def lr {s r:_}(hs:s≠[])(h:dD s (l.drop n)=some r):n+1<=l.length/\r=l.drop (n+1):=by
 unfold dD at h;split at h
 ·rename_i ho;injection h with h;have hn:n<l.length:=by
   rcases jy n l.length with hn|hn
   ·exact hn
   ·rw[gX hn]at ho;exact absurd ho.symm hs
  exact⟨hn,by rw[<-h,List.tail_drop]⟩
 ·cases h
def sX (lv i:Nat)(c:LV):Lam:=[Ob.cells [LV.cv (CV.ref lv i 0)],Ob.cells [c]]
structure PAll (f:Nat):Prop where
 level: ∀{μ lv i l n k res},Rdr μ lv i l n->1<=k->k<=10->dv f k (l.drop n)=some res->cg μ lv i l res eH hJ ((ev E).call 139 [LV.cv (CV.ref lv i 0),bv (k:Int)] μ)
 first: ∀{μ lv i l n k res},Rdr μ lv i l n->1<=k->k<=9->gW f k (l.drop n)=some res->cg μ lv i l res eH hJ ((ev E).call 165 [LV.cv (CV.ref lv i 0),bv (k:Int)] μ)
 loop: ∀{μ lv i l n k t res},Rdr μ lv i l n->1<=k->k<=9->iF f k t (l.drop n)=some res->cg μ lv i l res (λt μ=>rx t.cv μ) (λμ=>mE fF μ) (Aj (ev E) lv i (k:Int) t.cv μ)
 prim: ∀{μ lv i l n res},Rdr μ lv i l n->jC f (l.drop n)=some res->cg μ lv i l res eH hJ ((ev E).call 161 [LV.cv (CV.ref lv i 0)] μ)
 list: ∀{μ lv i l n acc res},Rdr μ lv i l n->acc.length<=n->jB f acc (l.drop n)=some res->cg μ lv i l res (λts μ=> .ret (LV.osl (ts.map T.cv)) μ) hJ (opt (C9 (ev E) lv i (acc.map T.cv) μ) (kB (ev E) 184 B0 [.block 0,.seq (cN 184 15)]))
 part: ∀{μ lv i l n ps c res},Rdr μ lv i l n->ps.length<=10->gv c=some (bT ps)->jU f (l.drop n)=some res->
  cg μ lv i l res (λa ν=> .ret (LV.ltup []) (ν++[sX lv i (LV.osl (bT (ps++[a])))])) (λν=> .panic fF (ν++[[Ob.cells [LV.cv (CV.ref lv i 0)],.dead]])) ((ev E).call 222 [LV.cv (CV.ref μ.length 0 0),LV.cv (CV.ref μ.length 1 0)] (μ++[sX lv i c]))
 arg: ∀{μ lv i l n res},Rdr μ lv i l n->nc f (l.drop n)=some res->cg μ lv i l res eH hJ ((ev E).call 204 [LV.cv (CV.ref lv i 0)] μ)
def cg.ev {α:Type}{res:Option (α×List Tok)}{good:α->Mu->Out}{bad:Mu->Out}{f:FuncId}{args:List LV}{μ0:Mu}(h:cg μ lv i l res good bad (bN E (ev E) f args μ0)):cg μ lv i l res good bad ((ev E).call f args μ0):=by
 unfold cg at h |-;cases res with
 |none=>obtain⟨n,e⟩:=h;exact⟨n,b8 e⟩
 |some q=>obtain⟨n,a,b,e⟩:=h;exact⟨n,a,b,b8 e⟩
def cg.callK {α β γ:Type}{res1:Option (β×List Tok)}{res:Option (α×List Tok)}{good1:β->LV}{good:α->Mu->γ}{bad:Mu->γ}{x:Option Out}{f:LV->Mu->Option γ}{p:CV->Mu->Option γ}
 (hx:cg μ lv i l res1 (λa μ=> .ret (good1 a) μ) hJ x) (hn:res1=none->res=none) (hp: ∀μ',p fF μ'=some (bad μ'))
 (hs: ∀t n,res1=some (t,l.drop n)->n<=l.length->cg (rS μ lv i l n) lv i l res good bad (f (good1 t) (rS μ lv i l n))):cg μ lv i l res good bad (Go.Abs.callK x f p):=by
 cases res1 with
 |none=>obtain⟨n,e⟩:=hx;rw[hn rfl,e];exact⟨n,hp _⟩
 |some q=>obtain⟨n,a,b,e⟩:=hx;rw[e];refine(hs q.1 n ?_ b).up;rw[<-a]
def cg.one {res1:Option (T×List Tok)}{x:Option Out}{g:T->T}{f:LV->Mu->Option Out}(hx:cg μ lv i l res1 eH hJ x)(hf: ∀t μ',f (LV.cv t.cv) μ'=some (eH (g t) μ')):
 cg μ lv i l (res1.map λq=>(g q.1,q.2)) eH hJ (Go.Abs.callK x f pP):=by
 refine cg.callK (good1:=λt:T=>LV.cv t.cv) hx (λh=>by rw[h];rfl) (λ_=>rfl) λt n h hn=> ?_;rw[h,hf];exact⟨n,rfl,hn,by rw[xi]⟩
end
section
variable {μ:Mu}{lv i n k f:Nat}{l:List Tok}{res:Option (T×List Tok)}
def oA {k t:Int}{s:List UInt8}{x:List (Option T)}:(T.mk k t s x).cv=CV.view [bD k,bD t,CV.str s,CV.sl (bT x)]:=by rw[T.cv]
def Ib {k:Int}{t:T}:(un k t).cv=CV.view [bD k,bD 0,CV.str [],CV.sl [t.cv]]:=by unfold un;rw[oA,bT,bT,eQ]
def Du {k:Int}{t u:T}:(bin k t u).cv=CV.view [bD k,bD 0,CV.str [],CV.sl [t.cv,u.cv]]:=by unfold bin;rw[oA,bT,bT,bT,eQ,eQ]
def fZ {t:T}:cx (LV.cv t.cv)=some t.cv:=by rw[na];rfl
def sI {g:T->T}{x:PR T}(h:eR x (λu r=>fT (g u) r)=some res): ∃res1,x=some res1/\res=res1.map λq=>(g q.1,q.2):=by
 rcases iR h with⟨h1,h2⟩|⟨a,r,h1,h2⟩
 ·exact⟨none,h1,by rw[h2];rfl⟩
 ·injection h2 with h2;exact⟨some (a,r),h1,h2.symm⟩
def cg.imp {α γ:Type}{res:Option (α×List Tok)}{good:α->Mu->γ}{bad:Mu->γ}{x y:Option γ}(hx:cg μ lv i l res good bad x)(h: ∀r,x=some r->y=some r):cg μ lv i l res good bad y:=by
 unfold cg at hx |-;cases res with
 |none=>obtain⟨n,e⟩:=hx;exact⟨n,h _ e⟩
 |some q=>obtain⟨n,a,b,e⟩:=hx;exact⟨n,a,b,h _ e⟩
def cg.opt {α γ δ:Type}{res:Option (α×List Tok)}{good:α->Mu->γ}{bad:Mu->γ}{good':α->Mu->δ}{bad':Mu->δ}{x:Option γ}{k:γ->Option δ}(hx:cg μ lv i l res good bad x)(hg: ∀a μ',k (good a μ')=some (good' a μ'))(hb: ∀μ',k (bad μ')=some (bad' μ')):cg μ lv i l res good' bad' (Go.Abs.opt x k):=by
 unfold cg at hx |-;cases res with
 |none=>obtain⟨n,e⟩:=hx;exact⟨n,by rw[e];exact hb _⟩
 |some q=>obtain⟨n,a,b,e⟩:=hx;exact⟨n,a,b,by rw[e];exact hg _ _⟩
def cg.map {α β γ:Type}{res:Option (β×List Tok)}{g:β->α}{good:α->Mu->γ}{bad:Mu->γ}{x:Option γ}(hx:cg μ lv i l res (λa μ=>good (g a) μ) bad x):cg μ lv i l (res.map λq=>(g q.1,q.2)) good bad x:=by
 cases res with|none=>exact hx|some q=>exact hx
def Qc (ih:PAll f)(h:Rdr μ lv i l n)(h1:1<=k)(h9:k<=9)(hp:gW (f+1) k (l.drop n)=some res):
 cg μ lv i l res eH hJ ((ev E).call 165 [LV.cv (CV.ref lv i 0),bv (k:Int)] μ):=by
 have plain: ∀{res},dv f (k+1) (l.drop n)=some res->cg μ lv i l res eH hJ (callK ((ev E).call 139 [LV.cv (CV.ref lv i 0),bv (IntKind.wrap .i64 ((k:Int)+(1:Int)))] μ) (λv27 μ28=>opt (cx v27) λc31=>some (.ret (LV.cv c31) μ28)) pP):=by intro res hp;rw[gU bu];have:=cg.one (g:=id) (ih.level h bu bu hp) (f:=λv27 μ28=>opt (cx v27) λc31=>some (.ret (LV.cv c31) μ28)) (λt μ'=>by simp only[fZ,bA];rfl);simpa using this
 have sign: ∀{g:Int} {res},eR (dv f 8 (l.drop (n+1))) (λu r=>fT (un g u) r)=some res->n+1<=l.length->
  cg μ lv i l res eH hJ (callK ((ev E).call 139 [LV.cv (CV.ref lv i 0),bv (8:Int)] (rS μ lv i l (n+1))) (λv6 μ7=>opt (cx v6) λc10=>bB (cY c10) (bB (noB c10&&true) (some (.ret (LV.cv (CV.view [bD g,bD (0:Int),CV.str ([]:List UInt8),CV.sl [c10]])) μ7)))) pP):=by
  intro g res hp hn;obtain⟨res1,e1,rfl⟩:=sI hp;refine(cg.one (ih.level (k:=8) (h.to hn) bu bu e1) λt μ'=> ?_).up;simp only[fZ,bA,eN,cL,jS,kO,Ib,eH]
 refine cg.ev ?_;rw[aco];rw[gW]at hp;by_cases c7:k=7
 ·subst c7;rw[bK rfl]at hp;rw[show decide (((7:Nat):Int)=7)=true from rfl,bY,qH h.ob h.small];cases t1:dD [43] (l.drop n)with
  |some r=>obtain⟨hn,rfl⟩:=lr bG t1;rw[t1]at hp;dsimp only at hp |-;rw[bL,da,bA,bY];exact sign hp hn
  |none=>
   rw[t1]at hp;dsimp only at hp |-;rw[bL,da,bA,bW];cases t2:dD [45] (l.drop n)with
   |some r=>
    obtain⟨hn,rfl⟩:=lr bG t2;rw[t2]at hp;dsimp only at hp;obtain⟨res1,e1,rfl⟩:=sI hp;refine cg.map ?_;refine cg.opt (good:=λu μ=>yf 7 0 [] [u.cv] μ) (bad:=λμ=>tB fF μ) ?_ (λu μ'=> ?_) (λμ'=> ?_)
    ·refine cg.imp (x:=(Fo lv i ((7:Nat):Int)).sK (ev E) μ) ?_ λr hr=>cm hr;rw[JP,qH h.ob h.small,t2];dsimp only;rw[bL,da,bA,bY];refine(cg.callK (good1:=λt:T=>LV.cv t.cv) (ih.level (k:=8) (h.to hn) bu bu e1) (λh=>h) (λ_=>rfl) λt m h3 hm=> ?_).up;rw[h3];refine⟨m,rfl,hm,?_⟩;simp only[fZ,bA,eN,cL,jS,kO,xi]
    ·rw[Mb];simp only[eH,Ib]
    ·rw[Mc];rfl
   |none=>
    rw[t2]at hp;dsimp only at hp;have:RO (ev E) lv i ((7:Nat):Int) μ=some (yg lv i ((7:Nat):Int) μ):=by refine cm ?_;rw[JP,qH h.ob h.small,t2];rfl
    rw[this,bA,Md];exact plain hp
 ·rw[bE c7]at hp;rw[show decide ((k:Int)=7)=false by simp;omega,bW];exact plain hp
def cg.bind {α β γ δ:Type}{res1:Option (β×List Tok)}{res:Option (α×List Tok)}{good1:β->Mu->γ}{bad1:Mu->γ}{good:α->Mu->δ}{bad:Mu->δ}{x:Option γ}{kk:γ->Option δ}
 (hx:cg μ lv i l res1 good1 bad1 x) (hn:res1=none->res=none) (hb: ∀μ',kk (bad1 μ')=some (bad μ'))
 (hs: ∀a n,res1=some (a,l.drop n)->n<=l.length->cg (rS μ lv i l n) lv i l res good bad (kk (good1 a (rS μ lv i l n)))):cg μ lv i l res good bad (Go.Abs.opt x kk):=by
 cases res1 with
 |none=>obtain⟨n,e⟩:=hx;rw[hn rfl,e];exact⟨n,hb _⟩
 |some q=>obtain⟨n,a,b,e⟩:=hx;rw[e];refine(hs q.1 n ?_ b).up;rw[<-a]
def ua {a:Int}{b:List UInt8}: ∀{m k j:Nat},jm a b m k=some j->b≠[]
 |0,k,j,h=>by cases h|m+1,k,j,h=>by
  unfold jm at h;split at h
  ·rename_i hc;rw[<-hc.2.2.2];exact hc.2.1
  ·exact ua h
def O7 (h:opR (l.drop n)≠[]):n+1<=l.length/\(l.drop n).tail=l.drop (n+1):=by
 refine⟨?_,by rw[List.tail_drop]⟩;rcases jy n l.length with hn|hn
 ·exact hn
 ·rw[gX hn]at h;exact absurd rfl h
def T9 (ih:PAll f){t:T}(h:Rdr μ lv i l n)(h1:1<=k)(h9:k<=9)(hp:iF (f+1) k t (l.drop n)=some res):
 cg μ lv i l res (λt μ=>rx t.cv μ) (λμ=>mE fF μ) (Aj (ev E) lv i (k:Int) t.cv μ):=by
 refine cg.imp (x:=(Cy lv i (k:Int) t.cv).rK (ev E) μ) ?_ λr hr=>dy hr;rw[Ut,DY h.ob,bL,dw,bA,Jz,bL];rw[iF]at hp;unfold KL;cases ho:jm (k:Int) (opR (l.drop n)) 25 0 with
 |none=>rw[ho]at hp;injection hp with hp;subst hp;exact⟨n,rfl,h.le,by rw[FO h.ob];rfl⟩
 |some j=>
  rw[ho]at hp;dsimp only at hp |-;obtain⟨hn,ht⟩:=O7 (ua ho);rw[ht]at hp;obtain⟨res1,e1,e2⟩: ∃res1,dv f (k+1) (l.drop (n+1))=some res1/\((res1=none/\res=none)\/ ∃a r,res1=some (a,r)/\iF f k (bin j t a) r=some res):=by
   rcases iR hp with⟨h1,h2⟩|⟨a,r,h1,h2⟩
   ·exact⟨none,h1,.inl ⟨rfl,h2⟩⟩
   ·exact⟨some (a,r),h1,.inr ⟨a,r,rfl,h2⟩⟩
  simp only[bU];refine cg.bind (res1:=res1) (good1:=λu μ=>v8 lv i (k:Int) (j:Int) 0 [] [t.cv,u.cv] μ) (bad1:=λμ=>wa fF μ) ?_ (λh0=> ?_) (λμ'=> ?_) λu m h3 hm=> ?_
  ·refine cg.imp (x:=(Cx lv i (k:Int) t.cv (j:Int)).sK (ev E) μ) ?_ λr hr=>cm hr;rw[Uf,VN h.ob h.small,gU bu];refine(cg.callK (good1:=λt:T=>LV.cv t.cv) (ih.level (k:=k+1) (h.to hn) bu bu e1) (λh=>h) (λ_=>rfl) λu m h3 hm=> ?_).up;rw[h3];refine⟨m,rfl,hm,?_⟩;simp only[fZ,bA,eN,cL,jS,kO,xi]
  ·rcases e2 with⟨_,e⟩|⟨a,r,e,_⟩
   ·exact e
   ·rw[h0]at e;cases e
  ·rw[Ke]
  ·rw[Kd];rcases e2 with⟨e,_⟩|⟨a,r,e,e3⟩
   ·rw[h3]at e;cases e
   ·rw[h3]at e;injection e with e;injection e with e4 e5;subst e4 e5;have:=ih.loop (t:=bin j t u) (h.to hm) h1 h9 e3;rw[Du]at this;exact this
def cg.same {x:Option Out}{f:LV->Mu->Option Out}(hx:cg μ lv i l res eH hJ x)(hf: ∀t μ',f (LV.cv (T.cv t)) μ'=some (eH t μ')):cg μ lv i l res eH hJ (Go.Abs.callK x f pP):=by have:=cg.one (g:=id) hx hf;simpa using this
def U0 (ih:PAll f)(h:Rdr μ lv i l n)(h1:1<=k)(h9:k<=9)(hp:eR (gW f k (l.drop n)) (λt r=>iF f k t r)=some res):
 cg μ lv i l res (λt μ=>v7 t.cv μ) (λμ=>rj fF μ) (Ny (ev E) lv i (k:Int) μ):=by
 refine cg.imp (x:=(Cw lv i (k:Int)).sK (ev E) μ) ?_ λr hr=>cm hr;rw[Ue];obtain⟨res1,e1,e2⟩: ∃res1,gW f k (l.drop n)=some res1/\((res1=none/\res=none)\/ ∃a r,res1=some (a,r)/\iF f k a r=some res):=by
  rcases iR hp with⟨h1,h2⟩|⟨a,r,h1,h2⟩
  ·exact⟨none,h1,.inl ⟨rfl,h2⟩⟩
  ·exact⟨some (a,r),h1,.inr ⟨a,r,rfl,h2⟩⟩
 refine cg.callK (good1:=λt:T=>LV.cv t.cv) (ih.first h h1 h9 e1) (λh0=> ?_) (λ_=>rfl) λu m h3 hm=> ?_
 ·rcases e2 with⟨_,e⟩|⟨a,r,e,_⟩
  ·exact e
  ·rw[h0]at e;cases e
 ·rw[fZ,bA];rcases e2 with⟨e,_⟩|⟨a,r,e,e3⟩
  ·rw[h3]at e;cases e
  ·rw[h3]at e;injection e with e;injection e with e4 e5;subst e4 e5;exact cg.opt (ih.loop (h.to hm) h1 h9 e3) (λa μ'=>Kz _ _ _) (λμ'=>KA _ _ _)
def Qu (ih:PAll f)(h:Rdr μ lv i l n)(h1:1<=k)(h10:k<=10)(hp:dv (f+1) k (l.drop n)=some res):
 cg μ lv i l res eH hJ ((ev E).call 139 [LV.cv (CV.ref lv i 0),bv (k:Int)] μ):=by
 refine cg.ev ?_;rw[acf];rw[dv]at hp;have hs: ∀(t:T) (μ':Mu),(opt (cx (LV.cv t.cv)) λc=>(some (.ret (LV.cv c) μ'):Option Out))=some (eH t μ'):=λt μ'=>by rw[fZ,bA];rfl
 by_cases c10:k=10
 ·subst c10;rw[bK rfl]at hp;rw[show decide (((10:Nat):Int)=10)=true from rfl,bY];exact cg.same (ih.prim h hp) hs
 rw[bE c10]at hp;rw[show decide ((k:Int)=10)=false by simp;omega,bW];by_cases c9:k=9
 ·subst c9;rw[bK rfl]at hp;rw[show decide (((9:Nat):Int)=9)=true from rfl,bY]
  obtain ⟨res1, e1, e2⟩ : ∃ res1, jC f (l.drop n) = some res1 /\ ((res1 = none /\ res = none) \/ ∃ a r, res1 = some (a, r) /\ (match dD [42, 42] r with
   |some r=>eR (dv f 9 r) λu r=>fT (bin 9 a u) r
   |none=>fT a r)=some res):=by
   rcases iR hp with⟨h1,h2⟩|⟨a,r,h1,h2⟩
   ·exact⟨none,h1,.inl ⟨rfl,h2⟩⟩
   ·exact⟨some (a,r),h1,.inr ⟨a,r,rfl,h2⟩⟩
  refine cg.callK (good1:=λt:T=>LV.cv t.cv) (ih.prim h e1) (λh0=> ?_) (λ_=>rfl) λt m h3 hm=> ?_
  ·rcases e2 with⟨_,e⟩|⟨a,r,e,_⟩
   ·exact e
   ·rw[h0]at e;cases e
  ·rcases e2 with⟨e,_⟩|⟨a,r,e,e3⟩
   ·rw[h3]at e;cases e
   ·rw[h3]at e;injection e with e;injection e with e4 e5;subst e4 e5;have h':=h.to hm;rw[fZ,bA,qH h'.ob h'.small];cases t1:dD [42,42] (l.drop m)with
    |none=>rw[t1]at e3;dsimp only at e3 |-;injection e3 with e3;subst e3;rw[bL,da,bA,bW];exact⟨m,rfl,hm,by rw[xi];rfl⟩
    |some r=>obtain⟨hn,rfl⟩:=lr bG t1;rw[t1]at e3;dsimp only at e3 |-;rw[bL,da,bA,bY];obtain⟨res1,e1,rfl⟩:=sI e3;refine(cg.one (ih.level (k:=9) (h'.to hn) bu bu e1) λu μ'=> ?_).up;simp only[fZ,bA,eN,cL,jS,kO,Du,eH]
 rw[bE c9]at hp;rw[show decide ((k:Int)=9)=false by simp;omega,bW];by_cases c4:k=4
 ·subst c4;rw[bK rfl]at hp;rw[show decide (((4:Nat):Int)=4)=true from rfl,bY,qH h.ob h.small];cases t1:dD [46,78,79,84,46] (l.drop n)with
  |some r=>obtain⟨hn,rfl⟩:=lr bG t1;rw[t1]at hp;dsimp only at hp |-;rw[bL,da,bA,bY];obtain⟨res1,e1,rfl⟩:=sI hp;refine(cg.one (ih.level (k:=4) (h.to hn) bu bu e1) λt μ'=> ?_).up;simp only[fZ,bA,eN,cL,jS,kO,Ib,eH]
  |none=>rw[t1]at hp;dsimp only at hp |-;rw[bL,da,bA,bW];exact cg.same (ih.level (k:=5) h bu bu hp) hs
 rw[bE c4]at hp;rw[show decide ((k:Int)=4)=false by simp;omega,bW];by_cases c5:k=5
 ·subst c5;rw[bK rfl]at hp;rw[show decide (((5:Nat):Int)=5)=true from rfl,bY]
  obtain ⟨res1, e1, e2⟩ : ∃ res1, dv f 6 (l.drop n) = some res1 /\ ((res1 = none /\ res = none) \/ ∃ a r, res1 = some (a, r) /\ (match jm 5 (opR r) 25 0 with
   |some k=>eR (dv f 6 r.tail) λu r=>fT (bin k a u) r
   |none=>fT a r)=some res):=by
   rcases iR hp with⟨h1,h2⟩|⟨a,r,h1,h2⟩
   ·exact⟨none,h1,.inl ⟨rfl,h2⟩⟩
   ·exact⟨some (a,r),h1,.inr ⟨a,r,rfl,h2⟩⟩
  refine cg.callK (good1:=λt:T=>LV.cv t.cv) (ih.level (k:=6) h bu bu e1) (λh0=> ?_) (λ_=>rfl) λt m h3 hm=> ?_
  ·rcases e2 with⟨_,e⟩|⟨a,r,e,_⟩
   ·exact e
   ·rw[h0]at e;cases e
  ·rcases e2 with⟨e,_⟩|⟨a,r,e,e3⟩
   ·rw[h3]at e;cases e
   ·rw[h3]at e;injection e with e;injection e with e4 e5;subst e4 e5;have h':=h.to hm;rw[fZ,bA,DY h'.ob,bL,dw,bA,Jz,bL];unfold KL;have e5:((5:Nat):Int)=5:=rfl;rw[e5];cases ho:jm 5 (opR (l.drop m)) 25 0 with
    |none=>rw[ho]at e3;dsimp only at e3 |-;injection e3 with e3;subst e3;simp only[bU];exact⟨m,rfl,hm,by rw[xi];rfl⟩
    |some j=>rw[ho]at e3;obtain⟨hn,ht⟩:=O7 (ua ho);dsimp only at e3 |-;rw[ht]at e3;obtain⟨res1,e1,rfl⟩:=sI e3;simp only[bU];rw[VN h'.ob h'.small];refine(cg.one (ih.level (k:=6) (h'.to hn) bu bu e1) λu μ'=> ?_).up;simp only[fZ,bA,eN,cL,jS,kO,Du,eH]
 rw[bE c5]at hp;rw[show decide ((k:Int)=5)=false by simp;omega,bW];exact cg.opt (U0 ih h h1 bu hp) (λa μ'=>Kb _ _ _) (λμ'=>by rw[Kc];rfl)
end
section
variable {α β γ δ:Type}{μ:Mu}{lv i n k f:Nat}{l:List Tok}{res:Option (α×List Tok)}
def nX {x:Option Out}{g:LV->Mu->Option β}{p:CV->Mu->Option β}:callK x g p=opt x λo=>callK (some o) g p:=by cases x<;>rfl
def gx {x:Option Out}{g:LV->Mu->Option β}{p:CV->Mu->Option β}{k:β->Option γ}:opt (callK x g p) k=callK x (λv μ=>opt (g v μ) k) (λv μ=>opt (p v μ) k):=by
 cases x with|none=>rfl|some o=>cases o<;>rfl
def sG {x:PR β}{kk:β->List Tok->PR α}{good1:β->Mu->γ}{bad1:Mu->γ}{good:α->Mu->δ}{bad:Mu->δ}{X:Option γ}{K:γ->Option δ}(hb:eR x kk=some res)
 (hx: ∀r,x=some r->cg μ lv i l r good1 bad1 X) (hp: ∀μ',K (bad1 μ')=some (bad μ'))
 (hs: ∀t n,x=some (some (t,l.drop n))->n<=l.length->kk t (l.drop n)=some res->cg (rS μ lv i l n) lv i l res good bad (K (good1 t (rS μ lv i l n)))):cg μ lv i l res good bad (opt X K):=by
 rcases iR hb with⟨h1,rfl⟩|⟨a,r,h1,h2⟩
 ·exact cg.bind (hx _ h1) (λ_=>rfl) hp λa n h=>by cases h
 ·refine cg.bind (hx _ h1) (λh=>by cases h) hp λt n h hn=> ?_;injection h with h;injection h with h3 h4;subst h3 h4;exact hs _ _ h1 hn h2
def wy {x:PR β}{kk:β->List Tok->PR α}{g1:β->LV}{good:α->Mu->δ}{bad:Mu->δ}{X:Option Out}{K:LV->Mu->Option δ}{p:CV->Mu->Option δ}(hb:eR x kk=some res)
 (hx: ∀r,x=some r->cg μ lv i l r (λa μ=> .ret (g1 a) μ) hJ X) (hp: ∀μ',p fF μ'=some (bad μ'))
 (hs: ∀t n,x=some (some (t,l.drop n))->n<=l.length->kk t (l.drop n)=some res->cg (rS μ lv i l n) lv i l res good bad (K (g1 t) (rS μ lv i l n))):cg μ lv i l res good bad (callK X K p):=by
 rw[nX];exact sG hb hx hp hs
def l6 {d:SegD}{good:α->Mu->δ}{bad:Mu->δ}{K:St->Option δ}(h:cg μ lv i l res good bad (opt (d.sK (ev E) μ) K)):cg μ lv i l res good bad (opt (d.seg (ev E) μ) K):=
 h.imp λr hr=>by obtain⟨s,h1,h2⟩:=cK hr;rw[cm h1,bA,h2]
def Sy {d:SegD}{good:α->Mu->δ}{bad:Mu->δ}{K:St->Option δ}(h:cg μ lv i l res good bad (opt (d.rK (ev E) μ) K)):cg μ lv i l res good bad (opt (d.loop (ev E) μ) K):=
 h.imp λr hr=>by obtain⟨s,h1,h2⟩:=cK hr;rw[dy h1,bA,h2]
def ji {good:α->Mu->δ}{bad:Mu->δ}{a:α}{x:Option δ}(h:Rdr μ lv i l n)(hx:x=some (good a μ)):cg μ lv i l (some (a,l.drop n)) good bad x:=⟨n,rfl,h.le,by rw[FO h.ob];exact hx⟩
def pA {good:α->Mu->δ}{bad:Mu->δ}{x:Option δ}(h:Rdr μ lv i l n)(hx:x=some (bad μ)):cg μ lv i l (none:Option (α×List Tok)) good bad x:=⟨n,by rw[FO h.ob];exact hx⟩
def IF {x:Lam}{good:α->Mu->δ}{bad:Mu->δ}{y:Option δ}(hl:lv<μ.length)(h:cg (μ++[x]) lv i l res good bad y):cg μ lv i l res (λa ν=>good a (ν++[x])) (λν=>bad (ν++[x])) y:=by
 have e: ∀n,rS (μ++[x]) lv i l n=rS μ lv i l n++[x]:=λn=>kV hl;unfold cg at h |-;cases res with
 |none=>obtain⟨n,h⟩:=h;exact⟨n,by rw[h,e]⟩
 |some q=>obtain⟨n,a,b,h⟩:=h;exact⟨n,a,b,by rw[h,e]⟩
def Rdr.push {x:Lam}(h:Rdr μ lv i l n):Rdr (μ++[x]) lv i l n:=⟨by rw[cS h.lt];exact h.ob,h.le,h.few,by have:=h.lt;simp;omega⟩
def Cs {s:List UInt8}{good:α->Mu->δ}{bad:Mu->δ}{K:LV->Mu->Option δ}{p:CV->Mu->Option δ}(h:Rdr μ lv i l n)(hs:s≠[])
 (h1:n+1<=l.length->dD s (l.drop n)=some (l.drop (n+1))->cg (rS μ lv i l (n+1)) lv i l res good bad (K (LV.bool true) (rS μ lv i l (n+1))))
 (h2:dD s (l.drop n)=none->cg μ lv i l res good bad (K (LV.bool false) μ)):cg μ lv i l res good bad (callK ((ev E).call 162 [LV.cv (CV.ref lv i 0),LV.str s] μ) K p):=by
 rw[qH h.ob h.small];cases t:dD s (l.drop n)with
 |none=>exact h2 t|some r=>obtain⟨hn,e⟩:=lr hs t;exact(h1 hn (by rw[t,e])).up
def Cr {s:List UInt8}{good:α->Mu->δ}{bad:Mu->δ}{K:LV->Mu->Option δ}{p:CV->Mu->Option δ}{kk:List Tok->PR α}(h:Rdr μ lv i l n)(hs:s≠[])(hb:nA s (l.drop n) kk=some res)
 (hp: ∀μ',p fF μ'=some (bad μ'))
 (h1:n+1<=l.length->kk (l.drop (n+1))=some res->cg (rS μ lv i l (n+1)) lv i l res good bad (K (LV.ltup []) (rS μ lv i l (n+1)))):cg μ lv i l res good bad (callK ((ev E).call 185 [LV.cv (CV.ref lv i 0),LV.str s] μ) K p):=by
 rw[aav h.ob h.small];unfold nA at hb;cases t:dD s (l.drop n)with
 |none=>rw[t]at hb;injection hb with hb;subst hb;exact pA h (hp _)
 |some r=>obtain⟨hn,e⟩:=lr hs t;subst e;rw[t]at hb;exact(h1 hn hb).up
end
section
variable {μ:Mu}{lv i n k f:Nat}{l:List Tok}
def Tw (t:T)(μ':Mu):(opt (cx (LV.cv t.cv)) λc=>(some (.ret (LV.cv c) μ'):Option Out))=some (eH t μ'):=by rw[fZ,bA];rfl
def te (ih:PAll f)(h:Rdr μ lv i l n): ∀res,dv f 1 (l.drop n)=some res->cg μ lv i l res eH hJ ((ev E).call 95 [LV.cv (CV.ref lv i 0)] μ):=λres hp=>by refine cg.ev ?_;rw[aev];exact cg.same (ih.level (k:=1) h bu bu hp) Tw
structure Clo (Q:T->Prop):Prop where
 leaf: ∀(k y:Int) (s:List UInt8),k=0\/k=1->Q (.mk k y s [])
 call: ∀(s:List UInt8) (ts:List T),(∀a∈ts,Q a)->Q (.mk 2 0 s (ts.map some))
 range: ∀a b c:Option T,(∀t,a=some t->Q t)->(∀t,b=some t->Q t)->(∀t,c=some t->Q t)->Q (.mk 3 0 [] [a,b,c])
 un: ∀(k:Int) (t:T),5<=k->k<=8->Q t->Q (un k t)
 bin: ∀(k:Int) (t u:T),k=4\/9<=k->k<25->Q t->Q u->Q (bin k t u)
def okT (t:T):Prop:=(t.kind=0->t.args=[])/\((t.kind=6\/t.kind=7)-> ∃u,t.args=[some u]/\(u.kind=0->u.args=[]))
def KF {k y:Int}{s:List UInt8}{x:List (Option T)}(h0:k≠0)(h6:k≠6)(h7:k≠7):okT (.mk k y s x):=⟨λh=>absurd h h0,λh=>(h.elim (λh=>absurd h h6) λh=>absurd h h7)⟩
def ZC:Clo okT where
 leaf := λk y s h => ⟨λ_ => rfl, λh2 => by
  have h2:k=6\/k=7:=h2
  omega⟩
 call:=λs ts h=>KF bu bu bu
 range:=λa b c _ _ _=>KF bu bu bu
 un := λk t h1 h2 h => ⟨λh3 => by
  have h3:k=0:=h3
  omega,λ_=>⟨t,rfl,h.1⟩⟩
 bin:=λk t u h1 h2 _ _=>KF bu bu bu
def okT.arg {t:T}(h:okT t): ∀x,(t.kind=6\/t.kind=7)->t.args=[x]-> ∃u,x=some u:=λx hk hx=>by obtain⟨u,h1,_⟩:=h.2 hk;rw[h1]at hx;injection hx with hx;exact⟨u,hx.symm⟩
def zH {a:Int}{b:List UInt8}: ∀{m k j:Nat},k+m<=25->jm a b m k=some j->9<=(j:Int)/\(j:Int)<25
 |0,k,j,hk,h=>by cases h|m+1,k,j,hk,h=>by
  unfold jm at h;split at h
  ·rename_i hc;injection h with h;subst h;have key: ∀k:Nat,k<25->mV (k:Int)=2->cz (k:Int)≠[]->9<=k:=co;have:=key k bu hc.1 hc.2.1;omega
  ·exact zH bu h
def QR {α:Type}(Q:α->Prop)(x:PR α):Prop:= ∀t r,x=some (some (t,r))->Q t
def QR.ret {α:Type}{Q:α->Prop}{t:α}{r:List Tok}(h:Q t):QR Q (fT t r):=λa b e=>by injection e with e;injection e with e;injection e with e;subst e;exact h
def QR.fail {α:Type}{Q:α->Prop}:QR Q failP:=λa b e=>by cases e
def QR.bind {α β:Type}{Q:α->Prop}{x:PR β}{k:β->List Tok->PR α}(h: ∀a r,x=some (some (a,r))->QR Q (k a r)):QR Q (eR x k):=λt r e=>by
 rcases iR e with⟨_,h2⟩|⟨a,r1,h1,h2⟩
 ·cases h2
 ·exact h a r1 h1 t r h2
def QR.must {α:Type}{Q:α->Prop}{s:List UInt8}{r:List Tok}{k:List Tok->PR α}(h: ∀r,QR Q (k r)):QR Q (nA s r k):=by
 unfold nA;split
 ·exact h _
 ·exact QR.fail
structure QAll (Q:T->Prop) (f:Nat):Prop where
 level: ∀n r,QR Q (dv f n r)
 first: ∀n r,QR Q (gW f n r)
 loop: ∀n t r,Q t->QR Q (iF f n t r)
 prim: ∀r,QR Q (jC f r)
 list: ∀acc r,(∀a∈acc,Q a)->QR (λts:List T=> ∀a∈ts,Q a) (jB f acc r)
 part: ∀r,QR (λo:Option T=> ∀t,o=some t->Q t) (jU f r)
 arg: ∀r,QR Q (nc f r)
def abf {Q:T->Prop}(c:Clo Q): ∀f,QAll Q f
 |0=>⟨λn r a b e=>by simp[dv]at e,λn r a b e=>by simp[gW]at e,λn t r _ a b e=>by simp[iF]at e,λr a b e=>by simp[jC]at e,λl r _ a b e=>by simp[jB]at e,λr a b e=>by simp[jU]at e,λr a b e=>by simp[nc]at e⟩|f+1=>by
  have ih:=abf c f;have snoc: ∀{acc:List T} {t:T},(∀a∈acc,Q a)->Q t-> ∀a∈acc++[t],Q a:=λh ht a ha=>by
   rcases j3.1 ha with ha|ha
   ·exact h a ha
   ·rw[vF]at ha;subst ha;exact ht
  have some1: ∀{t:T},Q t-> ∀u,some t=some u->Q u:=λh u e=>by injection e with e;subst e;exact h
  refine⟨λn r=> ?_,λn r=> ?_,λn t r ht=> ?_,λr=> ?_,λacc r ha=> ?_,λr=> ?_,λr=> ?_⟩
  ·rw[dv];split
   ·exact ih.prim _
   split
   ·refine QR.bind λa r h=> ?_;split
    ·exact QR.bind λ_ _ h2=>QR.ret (c.bin _ _ _ bu bu (ih.prim _ _ _ h) (ih.level _ _ _ _ h2))
    ·exact QR.ret (ih.prim _ _ _ h)
   split
   ·split
    ·exact QR.bind λ_ _ h=>QR.ret (c.un _ _ bu bu (ih.level _ _ _ _ h))
    ·exact ih.level _ _
   split
   ·refine QR.bind λa r h=> ?_;split
    ·rename_i ho;have hk:=zH bu ho;exact QR.bind λ_ _ h2=>QR.ret (c.bin _ _ _ (.inr hk.1) hk.2 (ih.level _ _ _ _ h) (ih.level _ _ _ _ h2))
    ·exact QR.ret (ih.level _ _ _ _ h)
   ·exact QR.bind λa r h=>ih.loop _ _ _ (ih.first _ _ _ _ h)
  ·rw[gW]
   repeat' split
   all_goals first|exact ih.level _ _|exact QR.bind λ_ _ h=>QR.ret (c.un _ _ bu bu (ih.level _ _ _ _ h))
  ·rw[iF];split
   ·rename_i ho;have hk:=zH bu ho;exact QR.bind λ_ _ h=>ih.loop _ _ _ (c.bin _ _ _ (.inr hk.1) hk.2 ht (ih.level _ _ _ _ h))
   ·exact QR.ret ht
  ·rw[jC.eq_def];dsimp only;split
   ·exact QR.fail
   split
   ·exact QR.ret (c.leaf _ _ _ (.inl rfl))
   split
   ·split
    ·exact QR.bind λ_ _ h=>QR.ret (c.call _ _ (ih.list _ _ bG _ _ h))
    ·exact QR.ret (c.leaf _ _ _ (.inr rfl))
   split
   ·refine QR.bind λ_ _ h=> ?_;split
    ·refine QR.bind λ_ _ h2=> ?_;split
     ·exact QR.must λ_=>QR.ret (c.bin _ _ _ (.inl rfl) bu (ih.level _ _ _ _ h) (ih.level _ _ _ _ h2))
     ·exact QR.fail
    ·exact QR.must λ_=>QR.ret (c.un _ _ bu bu (ih.level _ _ _ _ h))
   ·exact QR.fail
  ·rw[jB];refine QR.bind λt _ h=> ?_;split
   ·exact ih.list _ _ (snoc ha (ih.arg _ _ _ h))
   ·exact QR.must λ_=>QR.ret (snoc ha (ih.arg _ _ _ h))
  ·rw[jU];split
   ·exact QR.ret λt e=>by cases e
   ·exact QR.bind λ_ _ h=>QR.ret (some1 (ih.level _ _ _ _ h))
  ·rw[nc];refine QR.bind λa _ h=> ?_;split
   ·split
    ·exact QR.ret (ih.part _ _ _ h _ rfl)
    ·exact QR.fail
   ·refine QR.bind λb _ h2=> ?_;split
    ·exact QR.bind λd _ h3=>QR.ret (c.range _ _ _ (ih.part _ _ _ h) (ih.part _ _ _ h2) (some1 (ih.level _ _ _ _ h3)))
    ·exact QR.ret (c.range _ _ _ (ih.part _ _ _ h) (ih.part _ _ _ h2) λt e=>by cases e)
def Yi (f:Nat):QAll okT f:=abf ZC f
def Sh {α:Type}(r:List Tok)(x:PR α):Prop:= ∀a r',x=some (some (a,r'))->r'.length<=r.length
def Sh.ret {α:Type}{r r':List Tok}{a:α}(h:r'.length<=r.length):Sh r (fT a r'):=λb s e=>by injection e with e;injection e with e;injection e with _ e;subst e;exact h
def Sh.fail {α:Type}{r:List Tok}:Sh r (failP:PR α):=λa b e=>by cases e
def Sh.no {α:Type}{r:List Tok}:Sh r (none:PR α):=λa b e=>by cases e
def Sh.bind {α β:Type}{r:List Tok}{x:PR β}{k:β->List Tok->PR α}(hx:Sh r x)(h: ∀a r',r'.length<=r.length->Sh r (k a r')):Sh r (eR x k):=λt s e=>by
 rcases iR e with⟨_,h2⟩|⟨a,r1,h1,h2⟩
 ·cases h2
 ·exact h a r1 (hx _ _ h1) t s h2
def Sh.le {α:Type}{r r':List Tok}{x:PR α}(h:Sh r' x)(hl:r'.length<=r.length):Sh r x:=λa b e=>j5 (h a b e) hl
def Hq {s:List UInt8}{r r':List Tok}(h:dD s r=some r'):r'.length<=r.length:=by
 unfold dD at h;split at h
 ·injection h with h;subst h;simp
 ·cases h
def Sh.take {α:Type}{s:List UInt8}{r r0:List Tok}{x:List Tok->PR α}{y:PR α}(hl:r.length<=r0.length)(h: ∀r',r'.length<=r0.length->Sh r0 (x r'))(hy:Sh r0 y):Sh r0 (match dD s r with|some r'=>x r'|none=>y):=by
 cases t:dD s r with|none=>exact hy|some r'=>exact h r' (j5 (Hq t) hl)
def Sh.take' {α:Type}{s:List UInt8}{r r0:List Tok}{x:List Tok->PR α}{y:PR α}(hl:r.length<=r0.length)(h: ∀r',r'.length<=r0.length->Sh r0 (x r'))(hy:Sh r0 y):Sh r0 (match dD s r with|none=>y|some r'=>x r'):=by
 cases t:dD s r with|none=>exact hy|some r'=>exact h r' (j5 (Hq t) hl)
def Sh.must {α:Type}{s:List UInt8}{r r0:List Tok}{k:List Tok->PR α}(hl:r.length<=r0.length)(h: ∀r',r'.length<=r0.length->Sh r0 (k r')):Sh r0 (nA s r k):=Sh.take hl h Sh.fail
structure ShAll (f:Nat):Prop where
 level: ∀n r,Sh r (dv f n r)
 first: ∀n r,Sh r (gW f n r)
 loop: ∀n t r,Sh r (iF f n t r)
 prim: ∀r,Sh r (jC f r)
 list: ∀a r,Sh r (jB f a r)
 part: ∀r,Sh r (jU f r)
 arg: ∀r,Sh r (nc f r)
def Rx: ∀f,ShAll f
 |0=>⟨λn r=>by simp only[dv];exact Sh.no,λn r=>by simp only[gW];exact Sh.no,λn t r=>by simp only[iF];exact Sh.no,λr=>by simp only[jC];exact Sh.no,λa r=>by simp only[jB];exact Sh.no,λr=>by simp only[jU];exact Sh.no,λr=>by simp only[nc];exact Sh.no⟩|f+1=>by
  have ih:=Rx f;have tl: ∀r:List Tok,r.tail.length<=r.length:=λr=>by simp
  refine⟨λn r=> ?_,λn r=> ?_,λn t r=> ?_,λr=> ?_,λa r=> ?_,λr=> ?_,λr=> ?_⟩
  ·rw[dv];split
   ·exact ih.prim _
   split
   ·exact Sh.bind (ih.prim _) λa r' h=>Sh.take h (λr2 h2=>Sh.bind ((ih.level _ _).le h2) λ_ _ h3=>Sh.ret h3) (Sh.ret h)
   split
   ·exact Sh.take (cw _) (λr2 h2=>Sh.bind ((ih.level _ _).le h2) λ_ _ h3=>Sh.ret h3) (ih.level _ _)
   split
   ·refine Sh.bind (ih.level _ _) λa r' h=> ?_;split
    ·exact Sh.bind ((ih.level _ _).le (j5 (tl _) h)) λ_ _ h3=>Sh.ret h3
    ·exact Sh.ret h
   ·exact Sh.bind (ih.first _ _) λa r' h=>(ih.loop _ _ _).le h
  ·rw[gW];split
   ·exact Sh.take (cw _) (λr2 h2=>Sh.bind ((ih.level _ _).le h2) λ_ _ h3=>Sh.ret h3) (Sh.take (cw _) (λr2 h2=>Sh.bind ((ih.level _ _).le h2) λ_ _ h3=>Sh.ret h3) (ih.level _ _))
   ·exact ih.level _ _
  ·rw[iF];split
   ·exact Sh.bind ((ih.level _ _).le (tl _)) λ_ _ h3=>(ih.loop _ _ _).le h3
   ·exact Sh.ret (cw _)
  ·rw[jC.eq_def];dsimp only;split
   ·exact Sh.fail
   ·rename_i x r;have hr:r.length<=(x::r).length:=bG;split
    ·exact Sh.ret hr
    split
    ·exact Sh.take hr (λr2 h2=>Sh.bind ((ih.list _ _).le h2) λ_ _ h3=>Sh.ret h3) (Sh.ret hr)
    split
    ·refine Sh.bind ((ih.level _ _).le hr) λa r' h=>Sh.take h (λr2 h2=>Sh.bind ((ih.level _ _).le h2) λb r3 h3=> ?_) (Sh.must h λ_ h4=>Sh.ret h4);split
     ·exact Sh.must h3 λ_ h4=>Sh.ret h4
     ·exact Sh.fail
    ·exact Sh.fail
  ·rw[jB];exact Sh.bind (ih.arg _) λa r' h=>Sh.take h (λr2 h2=>(ih.list _ _).le h2) (Sh.must h λ_ h4=>Sh.ret h4)
  ·rw[jU];split
   ·exact Sh.ret (cw _)
   ·exact Sh.bind (ih.level _ _) λ_ _ h=>Sh.ret h
  ·rw[nc];refine Sh.bind (ih.part _) λa r' h=>Sh.take' h (λr2 h2=>Sh.bind ((ih.part _).le h2) λb r3 h3=>Sh.take h3 (λr4 h4=>Sh.bind ((ih.level _ _).le h4) λ_ _ h5=>Sh.ret h5) (Sh.ret h3)) ?_;split
   ·exact Sh.ret h
   ·exact Sh.fail
def rV {sz:Nat}{xs ys:List CV}(h1:xs.length+ys.length<=1000000)(h2:ee sz xs=true)(h3:ee sz ys=true):ef sz xs ys=true:=by unfold ef;rw[h2,h3];simp[small];omega
def Bo: ∀l:List T,bT (l.map some)=l.map T.cv
 |[]=>by rw[iC,bT];rfl|t::r=>by rw[dQ,bT,dS,Bo r];rfl
def Za (ih:PAll f)(h:Rdr μ lv i l n): ∀res,jB f [] (l.drop n)=some res->cg μ lv i l res (λts μ=> .ret (LV.osl (ts.map T.cv)) μ) hJ ((ev E).call 184 [LV.cv (CV.ref lv i 0)] μ):=λres hp=>by refine cg.ev ?_;rw[acs];exact ih.list h (vI _) hp
def Rn (ih:PAll f){res:Option (T×List Tok)}{K:St->Option Out}(h:Rdr μ lv i l n)
 (hp : (eR (dv f 1 (l.drop n)) λt r => match dD [44] r with
  |some r=>eR (dv f 1 r) λu r=>if ib t&&ib u then nA [41] r λr=>fT (bin 4 t u) r else failP
  |none=>nA [41] r λr=>fT (un 5 t) r)=some res)
 (hg: ∀(t:T) (k y:Int) (s:List UInt8) (x:List CV) μ',t.cv=CV.view [bD k,bD y,CV.str s,CV.sl x]->K (rk k y s x μ')=some (eH t μ')) (hb: ∀μ',K (io fF μ')=some (hJ μ')):
 cg μ lv i l res eH hJ (opt (uD (ev E) lv i μ) K):=by
 refine l6 ?_;rw[Ug,gx];refine wy (g1:=λt:T=>LV.cv t.cv) hp (te ih h) (λμ'=>hb μ') λt m hx hm e=> ?_;have ht:okT t:=(Yi f).level _ _ _ _ hx;have h1:=h.to hm;rw[fZ,bA,gx];refine Cs h1 bG (λhn t1=> ?_) (λt1=> ?_)
 ·rw[t1]at e;dsimp only at e;have h2:=h1.to hn;rw[da,bA,bY,gx];refine wy (g1:=λt:T=>LV.cv t.cv) e (te ih h2) (λμ'=>hb μ') λu m2 hx2 hm2 e2=> ?_;have hu:okT u:=(Yi f).level _ _ _ _ hx2;have h3:=h2.to hm2;simp only[fZ,bA,Qq ht.arg,bL,da];cases p1:ib t with
  |false=>rw[p1]at e2;injection e2 with e2;subst e2;simp only[dF,bY,u5,d5];exact pA h3 (hb _)
  |true=>
   simp only[db,bW,Qq hu.arg,bL,da,bA];cases p2:ib u with
   |false=>rw[p1,p2]at e2;injection e2 with e2;subst e2;simp only[dF,bY,u5,d5];exact pA h3 (hb _)
   |true=>rw[p1,p2,kO,bK rfl]at e2;simp only[db,bW];rw[kF];refine l6 ?_;rw[Uh,gx];refine Cr h3 bG e2 (λμ'=>by rw[show pX rl fF μ'=some (rl fF μ')from rfl,bA,Kh,bA,hb]) λhn3 e3=> ?_;injection e3 with e3;subst e3;simp only[d9,bA,cT,eN,cL,jS,kO,Kg];exact ji (h3.to hn3) (hg _ _ _ _ _ _ Du)
 ·rw[t1]at e;dsimp only at e;rw[da,bA,bW,kF];refine l6 ?_;rw[Ui,gx];refine Cr h1 bG e (λμ'=>by rw[show pX rm fF μ'=some (rm fF μ')from rfl,bA,Kj,bA,hb]) λhn3 e3=> ?_;injection e3 with e3;subst e3;simp only[d9,bA,cT,eN,cL,jS,kO,Ki];exact ji (h1.to hn3) (hg _ _ _ _ _ _ Ib)
def UU (ih:PAll f){res:Option (T×List Tok)}(h:Rdr μ lv i l n)(hp:jC (f+1) (l.drop n)=some res):cg μ lv i l res eH hJ ((ev E).call 161 [LV.cv (CV.ref lv i 0)] μ):=by
 refine cg.ev ?_;have e1: ∀m:Int,strip (bv m)=bv m:=λ_=>rfl;have e2:strip (LV.cv (CV.sl (cj l)))=LV.cv (CV.sl (cj l)):=rfl;have ro:b7 μ lv i= .cells [LV.cv (CV.sl (cj l)),bv (n:Int)]:=h.ob;have hg: ∀(t:T) (k y:Int) (s:List UInt8) (x:List CV) μ',t.cv=CV.view [bD k,bD y,CV.str s,CV.sl x]->kB (ev E) 161 jD [] (lX k y s x μ')=some (eH t μ'):=λt k y s x μ' e=>by rw[L9];unfold eH;rw[e]
 rw[ack,ro];simp only[H0,FQ,e1,e2,bA,dH,u1,xy];rw[jC.eq_def]at hp;dsimp only at hp;rcases jy n l.length with hn|hn
 ·rw[iM hn]at hp;dsimp only at hp;rw[show decide ((l.length:Int)<=(n:Int))=false by simp;omega,bW];refine l6 ?_;have hr:cq μ lv i (.cells [LV.cv (CV.sl (cj l)),bv ((n+1:Nat):Int)])=rS μ lv i l (n+1):=rfl;have h1:=h.to hn;rw[WE,ro];simp only[H0,FQ,e1,e2,bA,dH,u1,EG,dA hn,d8,xj,Yu,gU h.small,hr];generalize l[n]=x at hp |-;refine cg.up (m:=n+1) ?_;by_cases k1:x.kind=1
  ·rw[bK k1]at hp;injection hp with hp;subst hp;rw[cu k1,bY];exact ji h1 (hg _ _ _ _ _ _ (by rw[oA,bT]))
  rw[bE k1]at hp;rw[cE k1,bW];by_cases k0:x.kind=0
  ·rw[bK k0]at hp;simp only[cu k0,bY];rw[gx];refine Cs h1 bG (λhn2 t1=> ?_) (λt1=> ?_)
   ·rw[t1]at hp;dsimp only at hp;have h2:=h1.to hn2;rw[da,bA,bY,gx];refine wy (g1:=λts:List T=>LV.osl (ts.map T.cv)) hp (Za ih h2) (λμ'=>rfl) λts m _ hm e=> ?_;injection e with e;subst e;exact ji (h2.to hm) (hg _ _ _ _ _ _ (by rw[oA,Bo]))
   ·rw[t1]at hp;injection hp with hp;subst hp;exact ji h1 (hg _ _ _ _ _ _ (by rw[oA,bT]))
  rw[bE k0]at hp;simp only[cE k0,bW];by_cases ks:x.text=[40]
  ·rw[bK ks]at hp;rw[cu ks,db,bW,kF];exact Rn ih h1 hp (λt k y s x μ' e=>by rw[Kf,bA,hg _ _ _ _ _ _ e]) (λμ'=>rfl)
  ·rw[bE ks]at hp;injection hp with hp;subst hp;rw[cE ks,dF,bY,u5];exact pA h1 rfl
 ·rw[gX hn]at hp;injection hp with hp;subst hp;rw[show decide ((l.length:Int)<=(n:Int))=true by simp;omega,bY,u5];exact pA h rfl
def Lp {a b:List T}(h:a.length+b.length<=1000000):ef 1 (a.map T.cv) (b.map T.cv)=true:=rV cr (p5 _) (p5 _)
def T4 (ih:PAll f){acc:List T}{res:Option (List T×List Tok)}(h:Rdr μ lv i l n)(ha:acc.length<=n)(hp:jB (f+1) acc (l.drop n)=some res):
 cg μ lv i l res (λts μ=> .ret (LV.osl (ts.map T.cv)) μ) hJ (opt (C9 (ev E) lv i (acc.map T.cv) μ) (kB (ev E) 184 B0 [.block 0,.seq (cN 184 15)])):=by
 rw[jB]at hp;refine Sy ?_;rw[W7,gx];have hb: ∀μ',opt (pX yR fF μ') (kB (ev E) 184 B0 [.block 0,.seq (cN 184 15)])=some (hJ μ'):=λμ'=>rfl;refine wy (g1:=λt:T=>LV.cv t.cv) hp (λr hr=>ih.arg h hr) hb λt m hx hm e=> ?_;have hlt:n<=m:=by have:=(Rx f).arg _ _ _ hx;have:=h.le;simp at*;omega
 have h1:=h.to hm;have hc:ef 1 (acc.map T.cv) [t.cv]=true:=Lp (b:=[t]) (by have:=h.le;have:=h.few;simp;omega);have hap:acc.map T.cv++[t.cv]=(acc++[t]).map T.cv:=bG;simp only[fZ,bA,eN,cL,jS,kO,gw,hc,hap];rw[gx];refine Cs h1 bG (λhn t1=> ?_) (λt1=> ?_)
 ·rw[t1]at e;rw[da,bA,db,bW];exact ih.list (h1.to hn) cr e
 ·rw[t1]at e;rw[da,bA,dF,bY,bA,M2];refine Cr h1 bG e (λμ'=>rfl) λhn e3=> ?_;injection e3 with e3;subst e3;simp only[d9,bA,cT];exact ji (h1.to hn) rfl
mutual
def Ar {m:Nat}: ∀t:T,below m t.cv=true
 | .mk k y s x=>by rw[oA];simp only[below,dl,oE x]
def oE {m:Nat}: ∀x:List (Option T),dl m (bT x)=true
 |[]=>by rw[bT];rfl|none::r=>by rw[bT,ip];simp only[dl,below,oE r]|some t::r=>by rw[bT,dS];simp only[dl,Ar t,oE r]
end
def lQ {ν:Mu}{x:Lam}{L j:Nat}(h:ν.length=L):b7 (ν++[x]) L j=bQ x j:=by subst h;exact cV
def mv {ν:Mu}{x:Lam}{L j:Nat}{o:Ob}(h:ν.length=L):cq (ν++[x]) L j o=ν++[x.set j o]:=by subst h;exact od
theorem acS {c:LV}:bQ (sX lv i c) 0= .cells [LV.cv (CV.ref lv i 0)]:=rfl
theorem Yl {c:LV}:bQ (sX lv i c) 1= .cells [c]:=rfl
theorem Ym {c:LV}{o:Ob}:(sX lv i c).set 1 o=[Ob.cells [LV.cv (CV.ref lv i 0)],o]:=rfl
def abg {a:LV}:cD E.P 88 (.cells [a]) 0=some (strip a):=bx
def Yr {a:LV}:gh E.P 107 (.cells [a]) 0=some (a,.cells [strip a]):=bx
def Yt {a:LV}{xs:List CV}:du E.P 107 (.cells [a]) 0 (LV.osl xs)=some (.cells [LV.osl xs]):=bx
theorem pT {α:Type}{x:CV}{xs:List CV}{k:Lam->Option α}:kE [(0,[3]),(1,[1])] [Ob.cells [LV.cv x],Ob.cells [LV.osl xs]] k=k [Ob.cells [LV.cv x],Ob.cells [LV.osl xs]]:=rfl
def tN {ps:List (Option T)}{a:Option T}:bT ps++[eQ a]=bT (ps++[a]):=by rw[wD,bT,bT]
def aaG (h:Rdr μ lv i l n):(ev E).call 223 [LV.cv (CV.ref lv i 0)] μ=some (.ret (LV.bool (HR (l.drop n))) μ):=by refine b8 ?_;have e3:LV.osl [CV.str ([58]:List UInt8),CV.str ([44]:List UInt8),CV.str ([41]:List UInt8)]=LV.osl (j0 [[58],[44],[41]]):=rfl;rw[acM,DY h.ob];simp only[bU];rw[e3,TV co];simp only[bU];congr 3;unfold HR;generalize opR (l.drop n)=x;by_cases a:x=[58]<;>by_cases b:x=[44]<;>by_cases c:x=[41]<;>simp[a,b,c]
def UN (ih:PAll f){ps:List (Option T)}{c:LV}{res:Option (Option T×List Tok)}(h:Rdr μ lv i l n)(hps:ps.length<=10)(hc:gv c=some (bT ps))(hp:jU (f+1) (l.drop n)=some res):
 cg μ lv i l res (λa ν=> .ret (LV.ltup []) (ν++[sX lv i (LV.osl (bT (ps++[a])))])) (λν=> .panic fF (ν++[[Ob.cells [LV.cv (CV.ref lv i 0)],.dead]])) ((ev E).call 222 [LV.cv (CV.ref μ.length 0 0),LV.cv (CV.ref μ.length 1 0)] (μ++[sX lv i c])):=by
 refine cg.ev ?_;rw[jU]at hp;have es:strip (LV.cv (CV.ref lv i 0))=LV.cv (CV.ref lv i 0):=rfl;have gs: ∀c:CV,cx (LV.cv c)=some c:=λ_=>rfl;have ap: ∀a:Option T,ef 1 (bT ps) [eQ a]=true:=λa=>by
  have:[eQ a]=bT [a]:=by rw[bT,bT]
  rw[this];exact rV (by rw[eF,eF];simp;omega) (iQ _) (iQ _)
 rw[acL,lQ rfl,acS,abg,es];simp only[gs,bA];rw[aaG h.push,bL,da,bA];cases hE:HR (l.drop n)with
 |true=>rw[hE,bK rfl]at hp;injection hp with hp;subst hp;rw[bY,lQ rfl,Yl,Yr,bA,hc,bA,<-ip,ap,cL,tN,oE,cL,mv rfl,Ym,lQ rfl];refine ji h ?_;show opt (du E.P 107 (.cells [strip c]) 0 _) _=_;rw[Yt,bA,mv rfl];rfl
 |false=>
  rw[hE,bE bG]at hp;rw[bW,lQ rfl,Yl,Yr,bA,hc,bA,mv rfl,Ym,lQ rfl,lQ rfl];show cg μ lv i l res _ _ (opt (cD E.P 88 (.cells [LV.cv (CV.ref lv i 0)]) 0) _);rw[abg,es,bA,gs,bA];show cg μ lv i l res _ _ (bB true _);rw[cL,mv rfl];show cg μ lv i l res _ _ (callK ((ev E).call 95 [LV.cv (CV.ref lv i 0)] (μ++[[Ob.cells [LV.cv (CV.ref lv i 0)],.dead]])) _ _);rw[nX];refine sG hp (λr hr=>IF h.lt (te ih h.push _ hr)) (λμ'=>rfl) λt m hx hm e=> ?_;injection e with e;subst e;have hL:(rS μ lv i l m).length=μ.length:=UW m;have hin:za (rS μ lv i l m++[[Ob.cells [LV.cv (CV.ref lv i 0)],.dead]]) μ.length 1=true:=by unfold za;rw[ju bu,hL,sk];rfl
  refine ji (h.to hm) ?_;dsimp only[eH];rw[bL,gs,bA,hin,lQ hL];show bB true _=_;have a1:=ap (some t);rw[dS]at a1;have a2:bT ps++[t.cv]=bT (ps++[some t]):=by rw[<-tN,dS]
  rw[cL,eN,cL,jS,kO,cL];simp only[gw,jS,lI,a1,cL,a2,oE];rw[mv hL,lQ hL];show opt (du E.P 107 (.cells [strip c]) 0 _) _=_;rw[Yt,bA,mv hL];rfl
def Gy {α δ:Type}{res:Option (α×List Tok)}{x:Lam}{s:List UInt8}{good:α->Mu->δ}{bad:Mu->δ}{K:LV->Mu->Option δ}{p:CV->Mu->Option δ}(h:Rdr μ lv i l n)(hs:s≠[])
 (h1:n+1<=l.length->dD s (l.drop n)=some (l.drop (n+1))->cg (rS μ lv i l (n+1)) lv i l res good bad (K (LV.bool true) (rS μ lv i l (n+1)++[x])))
 (h2:dD s (l.drop n)=none->cg μ lv i l res good bad (K (LV.bool false) (μ++[x]))):cg μ lv i l res good bad (callK ((ev E).call 162 [LV.cv (CV.ref lv i 0),LV.str s] (μ++[x])) K p):=by
 rw[qH h.push.ob h.small];cases t:dD s (l.drop n)with
 |none=>exact h2 t|some r=>obtain⟨hn,e⟩:=lr hs t;have e2:rS (μ++[x]) lv i l (n+1)=rS μ lv i l (n+1)++[x]:=kV h.lt;dsimp only;rw[bL,e2];exact(h1 hn (by rw[t,e])).up
def mD (x:CV)(xs:List CV)(μ:Mu):St:= .ret (mS [(2,LV.cv (CV.view [bD 3,bD 0,CV.str [],CV.sl xs]))] [Ob.cells [LV.cv x],Ob.cells [LV.osl xs],Ob.dead] true) μ
def Hi {x:CV}{xs:List CV}{μ:Mu}:E9 (ev E) [Ob.cells [LV.cv x],Ob.cells [LV.osl xs]] μ=some (mD x xs μ):=by
 refine cm ?_;have: ∀ρ:Rho,(Ja [Ob.cells [LV.cv x],Ob.cells [LV.osl xs]]).sK ρ μ=some (mD x xs μ):=λρ=>by kernel_rfl
 exact this _
def Qo {ρ:Rho}{x:CV}{xs:List CV}{μ:Mu}:kS ρ gD [] [(2,0)] (mD x xs μ)=some (mD x xs μ):=bx
def ad2 {ρ:Rho}{x:CV}{xs:List CV}{μ:Mu}:kB ρ 204 gD [] (mD x xs μ)=bB (fj (List.length μ) (LV.cv (CV.view [bD 3,bD 0,CV.str [],CV.sl xs]))) (some (.ret (LV.cv (CV.view [bD 3,bD 0,CV.str [],CV.sl xs])) μ)):=bx
theorem ZB {α:Type}{x:CV}{xs:List CV}{k:Lam->Option α}:kE [(0,[3])] [Ob.cells [LV.cv x],Ob.cells [LV.osl xs]] k=k [Ob.cells [LV.cv x],Ob.cells [LV.osl xs]]:=rfl
def RH (ih:PAll f){a b:Option T}{res:Option (T×List Tok)}{K:St->Option Out}(h:Rdr μ lv i l n)
 (hp : (match dD [58] (l.drop n) with
  |some r=>eR (dv f 1 r) λc r=>fT (.mk 3 0 [] [a,b,some c]) r
  |none=>fT (.mk 3 0 [] [a,b,none]) (l.drop n))=some res)
 (hg: ∀y c μ',K (mD y (bT [a,b,c]) μ')=some (eH (.mk 3 0 [] [a,b,c]) μ')) (hb: ∀lam μ',K (tG fF lam μ')=some (hJ μ')):
 cg μ lv i l res eH hJ (opt (RY (ev E) (sX lv i (LV.osl (bT [a,b]))) μ) K):=by
 have gs: ∀c:CV,cx (LV.cv c)=some c:=λ_=>rfl;refine l6 ?_;unfold sX;rw[WW,gx];refine Gy h bG (λhn t1=> ?_) (λt1=> ?_)
 ·rw[t1]at hp;dsimp only at hp;have h1:=h.to hn;rw[dM,bA,da,bA,pT,kF];refine l6 ?_;rw[GZ,bY,gx,nX];refine sG hp (λr hr=>IF h1.lt (te ih h1.push _ hr)) (λμ'=> ?_) λt m hx hm e=> ?_
  ·dsimp only[hJ];rw[d5,dM,bA,bA];dsimp only;rw[Kx,bA,hb];rfl
  ·injection e with e;subst e;refine ji (h1.to hm) ?_;dsimp only[eH];have a1:ef 1 (bT [a,b]) [t.cv]=true:=by
    have:[t.cv]=bT [some t]:=by rw[bT,bT,dS]
    rw[this];exact rV (by rw[eF,eF];simp) (iQ _) (iQ _)
   have a2:bT [a,b]++[t.cv]=bT [a,b,some t]:=by rw[<-dS,tN];rfl
   rw[bL,dM,bA,fZ,bA];dsimp only;show opt (bB true _) _=_;rw[cL,eN,cL,jS,kO,cL];simp only[gw,jS,lI,a1,cL,a2];have wk: ∀k:Ob->Option St,pR E.P 107 (bQ (List.set [Ob.cells [LV.cv (CV.ref lv i 0)],Ob.dead] 1 (Ob.cells [LV.cv (CV.sl (bT [a,b]))])) 1) 0 (LV.osl (bT [a,b,some t])) k=k (.cells [LV.osl (bT [a,b,some t])]):=λk=>by kernel_rfl
   rw[wk,bA,Kw];show opt (kE [(0,[3])] [Ob.cells [LV.cv (CV.ref lv i 0)],Ob.cells [LV.osl (bT [a,b,some t])]] _) K=_;rw[ZB,Hi,bA,Qo,bA,hg];rfl
 ·rw[t1]at hp;injection hp with hp;subst hp;refine ji h ?_;have a1:ef 1 (bT [a,b]) [CV.v (.pointer none)]=true:=by
   have:[CV.v (.pointer none)]=bT [none]:=by rw[bT,bT,ip]
   rw[this];exact rV (by rw[eF,eF];simp) (iQ _) (iQ _)
  have a2:bT [a,b]++[CV.v (.pointer none)]=bT [a,b,none]:=by rw[<-ip,tN];rfl
  have e:NA (ev E) false [Ob.cells [LV.cv (CV.ref lv i 0)],Ob.cells [LV.osl (bT [a,b])]] μ=some (wi (CV.ref lv i 0) (bT [a,b,none]) μ):=by refine cm ?_;rw[GZ,bW,a1,cL,a2]
  rw[dM,bA,da,bA,pT,e,bA,Ky,Hi,bA,Qo,bA,hg]
def VI (ih:PAll f){res:Option (T×List Tok)}(h:Rdr μ lv i l n)(hp:nc (f+1) (l.drop n)=some res):cg μ lv i l res eH hJ ((ev E).call 204 [LV.cv (CV.ref lv i 0)] μ):=by
 refine cg.ev ?_;rw[nc]at hp;rw[acD,nX];refine sG hp (λr hr=>ih.part (ps:=[]) (c:=LV.cv (CV.v (.slice none 0 0))) h bG (by rw[bT];rfl) hr) (λμ'=> ?_) λa m hx hm e=> ?_
 ·rw[d5,dM,bA];rfl
 have h1:=h.to hm;have e1:bT [a]=[eQ a]:=by rw[bT,bT]
 rw[bL,dM,bA,d9,bA,cT,bA];unfold sX;rw[pT];refine l6 ?_;rw[WT,gx];refine Gy h1 bG (λhn t1=> ?_) (λt1=> ?_)
 ·rw[t1]at e;dsimp only at e;have h2:=h1.to hn;have eG: ∀ν,C6 (ev E) (!true) [Ob.cells [LV.cv (CV.ref lv i 0)],Ob.cells [LV.osl (bT ([]++[a]))]] ν=some (yv (CV.ref lv i 0) (bT [a]) ν):=λν=>by refine cm ?_;rw[db,CN,bW];rfl
  rw[dM,bA,da,bA,pT,eG,bA,MD,kF];refine l6 ?_;rw[WV,gx,nX];refine sG e (λr hr=>ih.part (ps:=[a]) (c:=LV.osl (bT [a])) h2 bG rfl hr) (λμ'=> ?_) λb m2 hx2 hm2 e2=> ?_
  ·rw[d5,dM,bA,bA];dsimp only;rw[BE,bA];rfl
  ·have h3:=h2.to hm2;rw[bL,dM,bA,d9,bA,cT,bA];unfold sX;rw[pT,kF];refine RH ih h3 e2 (λy c μ'=> ?_) (λlam μ'=> ?_)
   ·rw[Qo,bA,Qo,bA,ad2];show bB (below _ (CV.view _)) _=_;rw[<-oA,Ar,cL];rfl
   ·rw[MF,bA,BE,bA];rfl
 ·rw[t1]at e;dsimp only at e;cases a with
  |none=>
   injection e with e;subst e;refine pA h1 ?_;have eG: ∀ν,C6 (ev E) (!false) [Ob.cells [LV.cv (CV.ref lv i 0)],Ob.cells [LV.osl (bT ([]++[none]))]] ν=some (yu fF [Ob.cells [LV.cv (CV.ref lv i 0)],Ob.cells [LV.osl (bT [none])]] ν):=λν=>by refine cm ?_;rw[dF,CN,bY];show opt (dr (bT [none]) ((0:Nat):Int)) _=_;rw[mG];show bB (cY (eQ none)) _=_;rw[gR,cL,nJ,bA,bY,u5,d5,dM,bA];rfl
   rw[dM,bA,da,bA,pT,eG,bA,MC,bA];rfl
  |some t=>
   injection e with e;subst e;refine ji h1 ?_;have e0:dr (bT [some t]) (0:Int)=some t.cv:=by have:=mG [some t] 0;rw[bT,bT,dS]at this |-;exact this
   have e7: ∀ν,In (ev E) [Ob.cells [LV.cv (CV.ref lv i 0)],Ob.cells [LV.osl (bT [some t])]] ν=some (yw t.cv (CV.ref lv i 0) (bT [some t]) ν):=λν=>by refine cm ?_;rw[WU,e0,bA,eN,cL]
   have eG: ∀ν,C6 (ev E) (!false) [Ob.cells [LV.cv (CV.ref lv i 0)],Ob.cells [LV.osl (bT ([]++[some t]))]] ν=some (yt t.cv (CV.ref lv i 0) (bT [some t]) ν):=λν=>by refine cm ?_;show (Fp (!false) [Ob.cells [LV.cv (CV.ref lv i 0)],Ob.cells [LV.osl (bT [some t])]]).sK (ev E) ν=_;rw[dF,CN,bY,e0,bA,eN,cL,mm,bA,bW,e7,bA,ME]
   rw[dM,bA,da,bA,pT,eG,bA,MB,bA,MA];show bB (below _ t.cv) _=_;rw[Ar,cL];rfl
def zK: ∀f,PAll f
 |0=>⟨λ_ _ _ hp=>(by simp[dv]at hp),λ_ _ _ hp=>(by simp[gW]at hp),λ_ _ _ hp=>(by simp[iF]at hp),λ_ hp=>(by simp[jC]at hp),λ_ _ hp=>(by simp[jB]at hp),λ_ _ _ hp=>(by simp[jU]at hp),λ_ hp=>(by simp[nc]at hp)⟩|f+1=>⟨Qu (zK f),Qc (zK f),T9 (zK f),UU (zK f),T4 (zK f),UN (zK f),VI (zK f)⟩
end
def n0 {n:Nat}(h:n<10):Lib.decDigits n=[UInt8.ofNat (48+n)]:=Lib.decDigits_one h
def At {n:Nat}(h: ¬n<10):Lib.decDigits n=Lib.decDigits (n / 10)++[UInt8.ofNat (48+n % 10)]:=by rw[Lib.decDigits,dif_neg h]
def tR {d:Nat}(h:d<10):bR (UInt8.ofNat (48+d))=true/\(UInt8.ofNat (48+d)).toNat=48+d:=by have:(UInt8.ofNat (48+d)).toNat=48+d:=F2 (by show 48+d<256;omega);exact⟨iw.2 bu,this⟩
def Au: ∀(n:Nat),∀b∈Lib.decDigits n,bR b=true:=by
 intro n
 induction n using Nat.strongRecOn with
 |_ n ih=>
  intro b hb;by_cases h:n<10
  ·rw[n0 h]at hb;rw[vF.1 hb];exact(tR h).1
  ·rw[At h]at hb;rcases j3.1 hb with h1|h1
   ·exact ih (n / 10) bu b h1
   ·rw[vF.1 h1];exact(tR bu).1
def vB: ∀(n:Nat),valD 0 (Lib.decDigits n)=n:=by
 intro n
 induction n using Nat.strongRecOn with
 |_ n ih=>
  by_cases h:n<10
  ·rw[n0 h,iB,my,(tR h).2];omega
  ·rw[At h,Lh,ih (n / 10) bu,(tR (d:=n % 10) bu).2];omega
def V9: ∀(n:Nat),mR (Lib.decDigits n):=by
 intro n
 induction n using Nat.strongRecOn with
 |_ n ih=>
  by_cases h:n<10
  ·rw[n0 h];exact Or.inl rfl
  ·rw[At h];rcases ih (n / 10) bu with h1|⟨c,r,h1,h2⟩
   ·match h3:Lib.decDigits (n / 10),h1 with
    |[c],_=>refine Or.inr ⟨c,_,rfl,λe=> ?_⟩;have:=vB (n / 10);rw[h3,e]at this;have h48:valD 0 [(48:UInt8)]=0:=rfl;omega
   ·rw[h1];exact Or.inr ⟨c,_,rfl,h2⟩
def qE: ∀(k n:Nat),1<=k->n<10^k->(Lib.decDigits n).length<=k
 |0,n,h,_=>absurd h bu|1,n,_,h=>by rw[n0 (by simpa using h)];exact cw _|k+2,n,_,h=>by
  by_cases h9:n<10
  ·rw[n0 h9];simp
  ·rw[At h9,cC];have:=qE (k+1) (n / 10) bu (by rw[Bd]at h;exact(Nat.div_lt_iff_lt_mul bu).2 h);simp only[cB,cG];omega
section
variable {s:List UInt8}{fx:Bool}{n:Nat}
def Tu:kz s=true↔s.length<=10/\(∀b∈s,bR b=true)/\mR s:=by
 unfold kz;rw[cM,cM,dn,j2,and_assoc];refine and_congr_right λ_=>and_congr_right λhd=> ?_
 match s with
 |[]=>
  constructor
  ·intro h;cases h
  ·rintro(h|⟨c,r,h,_⟩)<;>simp at h
 |c::r=>
  show (!decide (c=48)||decide (c::r=[48]))=true↔_;rw[jw,jv,lF,dn];constructor
  ·rintro(h|h)
   ·exact Or.inr ⟨c,r,rfl,h⟩
   ·rw[h];exact Or.inl rfl
  ·rintro(h|⟨c',r',h,h2⟩)
   ·simp only[cB]at h;have:r=[]:=kM bu;subst this;by_cases hc:c=48
    ·subst hc;exact Or.inr rfl
    ·exact Or.inl hc
   ·injection h with h3 h4;subst h3;exact Or.inl h2
end
def DN: ∀(u:List UInt8),(∀b∈u,b≠39)->Lib.index u [39,39]= -1
 |[],_=>rfl|c::r,h=>by
  have hp:(([39,39]:List UInt8).isPrefixOf (c::r))=false:=by
   have:(39 == c)=false:=by simpa using λe:39=c=>h c bG e.symm
   simp[List.isPrefixOf,this]
  have:=DN r λb hb=>h b (gj _ hb);simp only[Lib.index,hp,this];rfl
def zb: ∀(a l:List UInt8),(∀b∈a,b≠39)->Lib.index (a++39::39::l) [39,39]=(a.length:Int)
 |[],l,_=>by simp[Lib.index,List.isPrefixOf]|c::r,l,h=>by
  have hp:(([39,39]:List UInt8).isPrefixOf (c::(r++39::39::l)))=false:=by
   have:(39 == c)=false:=by simpa using λe:39=c=>h c bG e.symm
   simp[List.isPrefixOf,this]
  have h1:=zb r l λb hb=>h b (gj _ hb);have hne:(Lib.index (r++39::39::l) [39,39] == -1)=false:=by rw[h1];simp;try omega
  rw[ew];simp only[Lib.index,hp,hne,h1];simp
def Pg (l:List UInt8):(∀b∈l,b≠39)\/ ∃a r,l=a++39::r/\ ∀b∈a,b≠39:=by
 rcases qd l 39 with⟨_,h⟩|⟨a,r,h1,h2,_⟩
 ·exact Or.inl h
 ·exact Or.inr ⟨a,r,h1,h2⟩
def zP: ∀(k:Nat) (u:List UInt8),Lib.count (dbl u) [39,39]<=k->Lib.replaceK [39,39] [39] k (dbl u)=u
 |0,u,h=>by
  rcases Pg u with h2|⟨a,r,h1,h2⟩
  ·have:=nZ u [] h2;simp only[eU,dbl]at this;rw[this];rfl
  ·exfalso;have hd:dbl u=a++39::39::dbl r:=by rw[h1,nZ a _ h2,dbl,bK rfl]
   have:=Lib.count_hit (sub:=[39,39]) bG (zb a (dbl r) h2);rw[hd]at h;omega
 |k+1,u,h=>by
  rcases Pg u with h2|⟨a,r,h1,h2⟩
  ·have:=nZ u [] h2;simp only[eU,dbl]at this;rw[this,Lib.replaceK,DN u h2];rfl
  ·have hd:dbl u=a++39::39::dbl r:=by rw[h1,nZ a _ h2,dbl,bK rfl]
   have hi:=zb a (dbl r) h2;rw[<-hd]at hi;have hc:=Lib.count_hit (sub:=[39,39]) bG hi;rw[Lib.replaceK_hit _ _ _ _ _ hi];have hdr:(dbl u).drop (a.length+([39,39]:List UInt8).length)=dbl r:=by rw[hd,<-gM,A7 rfl];rfl
   have ht:(dbl u).take a.length=a:=by rw[hd,A6 rfl]
   rw[hdr]at hc;rw[hdr,ht,zP k r bu,h1];simp
def Pk (u:List UInt8):Lib.replaceAll (dbl u) [39,39] [39]=u:=by unfold Lib.replaceAll Lib.replace Lib.replaceNum;rw[bE co,bK (Or.inl co)];exact zP _ _ (cw _)
def P1 (u:List UInt8):(eq u).length=(dbl u).length+2:=by unfold eq;simp only[cC,cB,cG];omega
section
variable {μ:Mu}{s:List UInt8}
def mid (s:List UInt8):List UInt8:=(s.drop 1).take (s.length-2)
end
def dN (ty p:Int):List UInt8:=if ty=2 then [68]++Lib.itoa p else if p≠0 then [69]++Lib.itoa p else []
def e9 (W P:List UInt8)(ty p:Int):List UInt8:=W++(46::(P++dN ty p))
structure RealOK (W P:List UInt8) (ty p:Int):Prop where
 wd: ∀b∈W,bR b=true
 wl:mR W
 pd: ∀b∈P,bR b=true
 pl:mR P.reverse
 cnt:oK W+oK P<=30
 p1: -999<=p
 p2:p<=999
 ty:ty=1\/ty=2
def iD {l:List UInt8}(h:mR l):l≠[]:=by
 rintro rfl;rcases h with h|⟨c,r,h,_⟩
 ·simp at h
 ·cases h
def Lf {l:List UInt8}(h:mR l):ug l=l:=by
 match l,h with
 |[],h=>rfl|[c],h=>rfl|c::d::r,h=>
  rcases h with h|⟨x,y,h,hx⟩
  ·simp at h
  ·injection h with h _;subst h;unfold ug;rw[bE hx]
def SE {W:List UInt8}(h:mR W):before W=W:=by unfold before dC;rw[bE (iD h),Lf h]
def VH {P:List UInt8}(h:mR P.reverse):after P=P:=by have h0:P≠[]:=λe=>iD h (by rw[e];rfl);unfold after dC Lg;rw[bE h0,Lf h,List.reverse_reverse]
section
variable {s:List UInt8}{n:Nat}
end
def wX (p:Int):(∃m:Nat,p=(m:Int)/\Lib.itoa p=Lib.decDigits m)\/ ∃m:Nat,1<=m/\p= -(m:Int)/\Lib.itoa p=45::Lib.decDigits m:=by
 by_cases h:0<=p
 ·obtain⟨m,rfl⟩: ∃m:Nat,p=(m:Int):=⟨p.toNat,bu⟩;exact Or.inl ⟨m,rfl,wY⟩
 ·obtain⟨m,rfl⟩: ∃m:Nat,p= -(m:Int):=⟨(-p).toNat,bu⟩;exact Or.inr ⟨m,bu,rfl,Ju bu⟩
def DF (m:Nat):Lib.decDigits m≠[]:=iD (V9 m)
def vt {W:List UInt8}{p:UInt8->Bool}: ∀(v r:List UInt8),(∀b∈v,p b=true)->(∀c t,r=c::t->p c=false)->(v++r).takeWhile p=v
 |[],[],_,_=>rfl|[],c::t,_,h=>by rw[fb,q6,h c t rfl];rfl|a::v,r,h1,h2=>by rw[ew,q6,h1 a bG,bK rfl,vt (W:=W) v r (λb hb=>h1 b (gj _ hb)) h2]
section
variable {W P:List UInt8}{ty p:Int}
def RG: ∀c t,dN ty p=c::t->bR c=false:=by
 intro c t h;unfold dN at h;split at h
 ·injection h with h _;subst h;decide
 ·split at h
  ·injection h with h _;subst h;decide
  ·cases h
end
def rd (u:List UInt8):Except Int (Tok×Nat):=rB (gi false u 0 ((u[0]?).getD 0))
def shN (m:Nat):Except Int (Tok×Nat)->Except Int (Tok×Nat)
 | .ok q=> .ok (q.1,m+q.2)| .error e=> .error e
section
variable {s:List UInt8}{m:Nat}
def mZ {j:Nat}:atC false s (m+j)=atC false (s.drop m) j:=by rw[nG,nG,tr]
def qm {j:Nat}(hm:m<=s.length):atE false s (m+j)=m+atE false (s.drop m) j:=by rw[l8,l8,gZ];split<;>split<;>omega
def Eu {p:UInt8->Bool}{j:Nat}(hp:p 0=false):eT false p s (m+j)=eT false p (s.drop m) j:=by rw[jb hp,jb hp,gM]
def ue {p:UInt8->Bool}{j:Nat}(hp:p 0=false):runE false p s (m+j)=m+runE false p (s.drop m) j:=by rw[jX hp,jX hp,gM];omega
def zW {j:Nat}(hm:m<=s.length):dT false s (m+j)=((dT false (s.drop m) j).1,m+(dT false (s.drop m) j).2.1,(dT false (s.drop m) j).2.2):=by
 have h1:ia false s (m+j)=ia false (s.drop m) j:=by unfold ia;rw[qm hm,Eu u3]
 have h2:dotEnd false s (m+j)=m+dotEnd false (s.drop m) j:=by unfold dotEnd;rw[qm hm,ue u3,qm hm]
 have h3:kg false s (m+j)=kg false (s.drop m) j:=by unfold kg;rw[h1,qm hm,ue u3,mZ]
 unfold dT;rw[mZ,h1,h2,h3];split<;>rfl
def FV {j:Nat}(hm:m<=s.length):cQ false s (m+j)=((cQ false (s.drop m) j).1,(cQ false (s.drop m) j).2.1,m+(cQ false (s.drop m) j).2.2.1,(cQ false (s.drop m) j).2.2.2):=by
 have h1:j7 false s (m+j)=j7 false (s.drop m) j:=by unfold j7;rw[mZ]
 have h2:gu false s (m+j)=gu false (s.drop m) j:=by unfold gu;rw[qm hm,mZ]
 have h3:expStart false s (m+j)=m+expStart false (s.drop m) j:=by unfold expStart;rw[qm hm,mZ,qm hm];split<;>rfl
 have h4:ei false s (m+j)=ei false (s.drop m) j:=by unfold ei;rw[h3,Eu iv]
 unfold cQ;rw[h1,h2,h3,h4,ue iv];split<;>rfl
def U4 {j:Nat}(hm:m<=s.length):fL false s (m+j)=shN m (fL false (s.drop m) j):=by
 have h1:eM false s (m+j)=eM false (s.drop m) j:=by unfold eM;rw[Eu iv]
 have h2:ge false s (m+j)=ge false (s.drop m) j:=by unfold ge;rw[h1,ue iv,mZ,zW hm]
 have h3:ie false s (m+j)=ie false (s.drop m) j:=by unfold ie;rw[h2,ue iv,qm hm,Eu iv]
 have h4:numEnd false s (m+j)=m+numEnd false (s.drop m) j:=by unfold numEnd;rw[h2,ue iv,qm hm,ue iv];split<;>rfl
 unfold fL;simp only[h1,h2,h3,h4,FV hm];split
 ·cases fH (eM false (s.drop m) j)<;>rfl
 ·unfold fS;split
  ·rfl
  ·split<;>rfl
def U5 {j:Nat}:jn s (m+j)=shN m (jn (s.drop m) j):=by
 unfold jn;rw[tr,gM,F0];cases eS ((s[m+j]?).getD 0) (s.drop (m+(j+1)))with
 |none=>rfl|some x=>
  simp only;split
  ·rfl
  ·simp only[shN];congr 2;omega
def acY {j:Nat}(hm:m<=s.length):iE false s (m+j)=shN m (iE false (s.drop m) j):=by
 unfold iE;simp only[qm hm,mZ];split
 ·rfl
 ·split
  ·rfl
  ·split
   ·rfl
   ·split<;>rfl
def mb {q:Except Int (Tok×Nat)}:rB (noK q)=q:=by cases q<;>rfl
def Vj {c:UInt8}(hm:m<=s.length):rB (gi false s m c)=shN m (rB (gi false (s.drop m) 0 c)):=by
 have a1:eT false dX s m=eT false dX (s.drop m) 0:=Eu (j:=0) zg;have a2:runE false dX s m=m+runE false dX (s.drop m) 0:=ue (j:=0) zg;have a3:atC false s (m+1)=atC false (s.drop m) (0+1):=mZ (j:=1);have a4:fL false s m=shN m (fL false (s.drop m) 0):=U4 (j:=0) hm;have a5:dT false s m=((dT false (s.drop m) 0).1,m+(dT false (s.drop m) 0).2.1,(dT false (s.drop m) 0).2.2):=zW (j:=0) hm;have a6:iE false s m=shN m (iE false (s.drop m) 0):=acY (j:=0) hm;have a7:rB (ig s m)=shN m (rB (ig (s.drop m) 0)):=by rw[ma,ma];exact U5 (j:=0)
 unfold gi;rw[a1,a2,a3,a4,a5,a6];split
 ·split<;>rfl
 ·split
  ·rw[mb,mb]
  ·split
   ·split<;>rfl
   ·split
    ·exact a7
    ·rw[mb,mb]
def abr (hm:m<=s.length):rB (gi false s m ((s[m]?).getD 0))=shN m (rd (s.drop m)):=by rw[Vj hm];unfold rd;rw[tr,lH]
end
inductive Lex:List UInt8->List Tok->Prop
 |nil {u}:u.drop (cH u)=[]->Lex u []|cons {u v t e l}:u.drop (cH u)=v->v≠[]->rd v= .ok (t,e)->Lex (v.drop e) l->Lex u (t::l)
section
variable {s:List UInt8}
def Xv {k n:Nat}{out:List Tok}{kept:List Nat}(h:n+cH (s.drop n)<s.length):
 (∃x,rd ((s.drop n).drop (cH (s.drop n)))= .error x/\gL false s (k+1) n out kept=(some (n+cH (s.drop n),x),out,kept))\/
 ∃t e kp,rd ((s.drop n).drop (cH (s.drop n)))= .ok (t,e)/\gL false s (k+1) n out kept=gL false s k (n+cH (s.drop n)+e) (out++[t]) (kept++kp):=by
 have hr:=abr (s:=s) (m:=n+cH (s.drop n)) bu;rw[<-gM]at hr
 rw [show gL false s (k + 1) n out kept = (if s.length <= n + cH (s.drop n) then (none, out, kept)
  else match lD false s out (n+cH (s.drop n))with
   | .error e=>(some (n+cH (s.drop n),e),out,kept)
   | .ok q=>gL false s k q.2.1 (out++[q.1]) (kept++q.2.2))from rfl,bE bu,EF]
 cases ht:gi false s (n+cH (s.drop n)) ((s[n+cH (s.drop n)]?).getD 0)with
 |error x=>
  rw[ht]at hr;cases hx:rd ((s.drop n).drop (cH (s.drop n)))with
  |error y=>rw[hx]at hr;injection hr with hr;subst hr;exact Or.inl ⟨_,rfl,rfl⟩
  |ok q=>rw[hx]at hr;cases hr
 |ok q=>
  rw[ht]at hr;cases hx:rd ((s.drop n).drop (cH (s.drop n)))with
  |error y=>rw[hx]at hr;cases hr|ok r=>rw[hx]at hr;injection hr with hr;refine Or.inr ⟨r.1,r.2,q.2.2,rfl,?_⟩;have h1:q.1=r.1:=m6 Prod.fst hr;have h2:q.2.1=n+cH (s.drop n)+r.2:=m6 Prod.snd hr;simp only[h1,h2]
def abj {v:List UInt8}{t:Tok}{e:Nat}(h0: ∀c r,v=c::r->c≠32)(hv:v≠[])(h:rd v= .ok (t,e)):1<=e/\e<=v.length:=by
 obtain⟨c,r,rfl⟩: ∃c r,v=c::r:=by
  cases v with|nil=>exact absurd rfl hv|cons c r=>exact⟨c,r,rfl⟩
 have hf:=EE (fx:=false) (s:=c::r) (out:=[]) (n:=0) (c:=c) rfl (h0 c r rfl);rw[EF]at hf;unfold rd at h;cases hq:gi false (c::r) 0 (((c::r)[0]?).getD 0)with
 |error x=>rw[hq]at h;cases h|ok q=>rw[hq]at h hf;injection h with h;have h2:q.2.1=e:=m6 Prod.snd h;obtain⟨f1,f2,_⟩:=hf;omega
def LE (u:List UInt8): ∀c r,u.drop (cH u)=c::r->c≠32:=p7 u
def U9: ∀(k n:Nat) (out:List Tok) (kept:List Nat) (o:List Tok) (kp:List Nat),s.length<n+k->n<=s.length->gL false s k n out kept=(none,o,kp)-> ∃l,o=out++l/\Lex (s.drop n) l:=by
 intro k
 induction k with
 |zero=>intro n out kept l kp h1 h2;omega|succ k ih=>
  intro n out kept o kp h1 h2 h;have hb:=tP (s.drop n);rw[gZ]at hb;by_cases hlen:s.length<=n+cH (s.drop n)
  ·unfold gL at h;rw[bK hlen]at h;injection h with _ h;injection h with h _;refine⟨[],by rw[h];simp,.nil ?_⟩;rw[gM];exact gX hlen
  ·obtain⟨v,hv⟩: ∃v,v=(s.drop n).drop (cH (s.drop n)):=⟨_,rfl⟩;have hvl:v.length=s.length-(n+cH (s.drop n)):=by rw[hv,gZ,gZ];omega
   have hv0:v≠[]:=λe=>by rw[e]at hvl;simp at hvl;omega
   rcases Xv (k:=k) (out:=out) (kept:=kept) (by omega:n+cH (s.drop n)<s.length)with⟨x,hx,hy⟩|⟨t',e',kq,hx,hy⟩
   ·rw[hy]at h;cases h
   ·rw[hy]at h;rw[<-hv]at hx;have hp:=abj (by rw[hv];exact LE _) hv0 hx;obtain⟨l,h3,h4⟩:=ih _ _ _ _ _ bu bu h;refine⟨t'::l,by rw[h3];simp,.cons hv.symm hv0 hx ?_⟩;rw[<-gM,<-gM,<-hv]at h4;exact h4
def LO (h:(dJ false s).e=0):jI s=0/\Lex s (dZ false s)/\(dZ false s).length<=300:=by
 obtain⟨ht,hl,_⟩:=FU h;have hT:dZ false s=(dJ false s).toks:=by unfold dZ;rw[bK h]
 refine⟨ht,?_⟩;rw[hT];unfold dJ at h |-;rw[bK ht]at h |-;simp only at h |-;obtain⟨x,o,kp,hr⟩: ∃x o kp,gL false s (s.length+1) 0 [] []=(x,o,kp):=⟨_,_,_,rfl⟩;rw[hr]at h |-;simp only at h |-;cases x with
 |none=>
  obtain⟨l,h1,h2⟩:=U9 (s:=s) (s.length+1) 0 [] [] o kp bu bu hr;simp only[fb]at h1;subst h1;rw[bK (show (fE none).2=0 from rfl)]at h |-;by_cases h3:300<o.length
  ·rw[bK h3]at h;exact absurd h bG
  ·rw[bE h3];exact⟨h2,by show o.length<=300;omega⟩
 |some w=>have:=Hn (fx:=false) (s:=s) (s.length+1) 0 [] [] w.1 w.2 (by rw[hr]);have e:(fE (some w)).2=w.2:=rfl;rw[e,bE this]at h;exact absurd h this
end
def hd (u:List UInt8):UInt8:=(u[0]?).getD 0
theorem mN {c:UInt8}{r:List UInt8}:hd (c::r)=c:=rfl
def fK {a b:List UInt8}(h:a≠[]):hd (a++b)=hd a:=by
 cases a with|nil=>exact absurd rfl h|cons c r=>rfl
def aak {p:UInt8->Bool}{u:List UInt8}(h:p (hd u)=false): ∀c t,u=c::t->p c=false:=by rintro c t rfl;exact h
def vy {p:UInt8->Bool}{v r:List UInt8}(h1: ∀b∈v,p b=true)(h2:p (hd r)=false):(v++r).takeWhile p=v:=vt (W:=[]) v r h1 (aak h2)
def pH {a b:List UInt8}:(a++b).drop a.length=b:=A7 rfl
theorem at0 {u:List UInt8}:atC false u 0=hd u:=rfl
theorem Fv (y:List UInt8):cQ false y 0=if j7 false y 0=69\/j7 false y 0=68 then(j7 false y 0,gu false y 0++ei false y 0,runE false bR y (expStart false y 0),!decide (ei false y 0=[]))else(0,[],0,false):=rfl
section
variable {W P y:List UInt8}
def mn (hw: ∀b∈W,bR b=true)(hp: ∀b∈P,bR b=true)(hP:P≠[])(hy:bR (hd y)=false):
 fL false (W++46::(P++y)) 0=fS W P (cQ false y 0).2.1 (cQ false y 0).1 (cQ false y 0).2.2.2 (W.length+1+P.length+(if(cQ false y 0).2.2.2 then(cQ false y 0).2.2.1 else 0)):=by
 obtain⟨u,hu⟩: ∃u,u=W++46::(P++y):=⟨_,rfl⟩;have hul:u.length=W.length+1+P.length+y.length:=by rw[hu];simp;omega
 have d1:u.drop W.length=46::(P++y):=by rw[hu];exact pH
 have d2:u.drop (W.length+1)=P++y:=by rw[<-gM,d1];rfl
 have d3:u.drop (W.length+1+P.length)=y:=by rw[<-gM,d2];exact pH
 have t0:(u.drop 0).takeWhile bR=W:=by rw[jx,hu];exact pW co W _ hw
 have r0:runE false bR u 0=W.length:=by rw[jX iv,t0,gC]
 have w0:eM false u 0=W:=by unfold eM;rw[jb iv,t0]
 have c0:atC false u W.length=46:=by have:=mZ (s:=u) (m:=W.length) (j:=0);rw[lH,d1]at this;rw[this];rfl
 have e0:atE false u W.length=W.length+1:=by rw[l8,bK bu]
 obtain⟨c,r,hcr⟩: ∃c r,P=c::r:=by
  cases P with|nil=>exact absurd rfl hP|cons c r=>exact⟨c,r,rfl⟩
 have hcd:bR c=true:=hp c (by rw[hcr];simp);have hcl:dx c=false:=by have:=iw.1 hcd;unfold dx;rw[vD,AX,AX,lF,lF,lF];omega
 have dt:(dT false u W.length).2.2=false:=by
  have h1:kg false u W.length=false:=by
   unfold kg;rw[e0,jX u3,d2,hcr,ew,q6,hcl];have:atC false u (W.length+1)=c:=by have:=mZ (s:=u) (m:=W.length+1) (j:=0);rw[lH,d2,hcr]at this;rw[this];rfl
   simp only[eD,dG,cG,lH];rw[this,cE (by rintro rfl;exact absurd hcd co)];rfl
  unfold dT;rw[bK c0];exact h1
 have nd:ge false u 0=true:=by unfold ge;rw[r0,c0,dt];rfl
 have np:ie false u 0=P:=by unfold ie;rw[bK nd,r0,e0,jb iv,d2];exact vy hp hy
 have ne:numEnd false u 0=W.length+1+P.length:=by unfold numEnd;rw[bK nd,r0,e0,jX iv,d2,vy hp hy]
 have hx:cQ false u (W.length+1+P.length)=((cQ false y 0).1,(cQ false y 0).2.1,W.length+1+P.length+(cQ false y 0).2.2.1,(cQ false y 0).2.2.2):=by have:=FV (s:=u) (m:=W.length+1+P.length) (j:=0) bu;rw[d3]at this;exact this
 rw[<-hu];unfold fL;simp only[nd,w0,np,ne,hx,db,vH,eD,dG];cases (cQ false y 0).2.2.2<;>rfl
def zG (hw: ∀b∈W,bR b=true)(h0:W≠[])(hy:bR (hd y)=false)(hdot:hd y=46->kg false y 0=true):
 fL false (W++y) 0=if(cQ false y 0).2.2.2 then fS W [] (cQ false y 0).2.1 (cQ false y 0).1 true (W.length+(cQ false y 0).2.2.1)else(match fH W with| .ok t=> .ok (t,W.length)| .error e=> .error e):=by
 obtain⟨u,hu⟩: ∃u,u=W++y:=⟨_,rfl⟩;have hul:u.length=W.length+y.length:=by rw[hu];simp
 have d1:u.drop W.length=y:=by rw[hu];exact pH
 have t0:(u.drop 0).takeWhile bR=W:=by rw[jx,hu];exact vy hw hy
 have r0:runE false bR u 0=W.length:=by rw[jX iv,t0,gC]
 have w0:eM false u 0=W:=by unfold eM;rw[jb iv,t0]
 have c0:atC false u W.length=hd y:=by have:=mZ (s:=u) (m:=W.length) (j:=0);rw[lH,d1]at this;rw[this];rfl
 have hdt:dT false u W.length=((dT false y 0).1,W.length+(dT false y 0).2.1,(dT false y 0).2.2):=by have:=zW (s:=u) (m:=W.length) (j:=0) bu;rw[d1]at this;exact this
 have nd:ge false u 0=false:=by
  unfold ge;rw[r0,c0,w0,hdt];by_cases h46:hd y=46
  ·have:(dT false y 0).2.2=true:=by unfold dT;rw[at0,bK h46];exact hdot h46
   rw[this,cE h0];simp
  ·rw[cE h46];rfl
 have ne:numEnd false u 0=W.length:=by unfold numEnd;rw[nd,r0];rfl
 have np:ie false u 0=[]:=by unfold ie;rw[nd];rfl
 have hx:cQ false u W.length=((cQ false y 0).1,(cQ false y 0).2.1,W.length+(cQ false y 0).2.2.1,(cQ false y 0).2.2.2):=by have:=FV (s:=u) (m:=W.length) (j:=0) bu;rw[d1]at this;exact this
 rw[<-hu];unfold fL;simp only[nd,w0,np,ne,hx,dF,lI];cases (cQ false y 0).2.2.2<;>rfl
def sb {w p d:List UInt8}{L:UInt8}{ok:Bool}{e:Nat}{q:Tok×Nat}(h:fS w p d L ok e= .ok q):q.1.kind=1/\(q.1.type=1\/q.1.type=2)/\q.2=e:=by
 unfold fS at h;split at h
 ·cases h
 ·injection h with h;subst h;unfold gP;split
  ·exact⟨rfl,Or.inr rfl,rfl⟩
  ·split
   ·exact⟨rfl,Or.inl rfl,rfl⟩
   ·exact⟨rfl,Or.inl rfl,rfl⟩
def sO {L:UInt8}{sg D r:List UInt8}(hL:L=69\/L=68)(hsg:sg=[]\/sg=[45])(hD: ∀b∈D,bR b=true)(h0:D≠[])(hr:bR (hd r)=false):
 cQ false (L::(sg++(D++r))) 0=(L,sg++D,1+sg.length+D.length,true):=by
 obtain⟨c,q,hcq⟩: ∃c q,D=c::q:=by
  cases D with|nil=>exact absurd rfl h0|cons c r=>exact⟨c,r,rfl⟩
 have hcd:bR c=true:=hD c (by rw[hcq];simp);obtain⟨u,hu⟩: ∃u,u=L::(sg++(D++r)):=⟨_,rfl⟩;have hul:u.length=1+sg.length+D.length+r.length:=by rw[hu];simp;omega
 have hD1:1<=D.length:=by rw[hcq];simp
 have hxL:j7 false u 0=L:=by unfold j7;rw[at0,hu,mN];rcases hL with rfl|rfl<;>rfl
 have e0:atE false u 0=1:=by rw[l8,bK bu]
 have hboth:expStart false u 0=1+sg.length/\gu false u 0=sg:=by
  unfold expStart gu;rcases hsg with rfl|rfl
  ·have c1:atC false u 1=c:=by rw[nG,hu,hcq];rfl
   have n43:c≠43:=by rintro rfl;exact absurd hcd co
   have n45:c≠45:=by rintro rfl;exact absurd hcd co
   rw[e0,c1,bE n45,bE (by simp[n43,n45])];exact⟨rfl,rfl⟩
  ·have c1:atC false u 1=45:=by rw[nG,hu];rfl
   rw[e0,c1,bK rfl,bK (Or.inr rfl),l8,bK (by rw[hul];simp;omega)];exact⟨rfl,rfl⟩
 obtain⟨hst,hsi⟩:=hboth;have d1:u.drop (1+sg.length)=D++r:=by rw[Nat.add_comm,hu,tj];exact pH
 have hdi:ei false u 0=D:=by unfold ei;rw[hst,jb iv,d1];exact vy hD hr
 have hre:runE false bR u (1+sg.length)=1+sg.length+D.length:=by rw[jX iv,d1,vy hD hr]
 rw[<-hu,Fv,hxL,bK hL,hsi,hdi,hst,hre,cE h0];rfl
def wM {y:List UInt8}(h:hd y≠69/\hd y≠101/\hd y≠68/\hd y≠100):(cQ false y 0).2.2.2=false:=by
 rw[Fv,bE];unfold j7;rw[at0];have:=Qb (hd y);rintro(h1|h1)
 ·rcases this.1.1 h1 with h2|h2
  ·exact h.1 h2
  ·exact h.2.1 h2
 ·rcases this.2.1 h1 with h2|h2
  ·exact h.2.2.1 h2
  ·exact h.2.2.2 h2
def Wg {a c:UInt8}{r:List UInt8}(h1:bR c=false)(h2:c≠43)(h3:c≠45):(cQ false (a::c::r) 0).2.2.2=false:=by
 have e0:atE false (a::c::r) 0=1:=rfl;have c1:atC false (a::c::r) 1=c:=rfl;have hst:expStart false (a::c::r) 0=1:=by unfold expStart;rw[e0,c1,bE (by simp[h2,h3])]
 have hdi:ei false (a::c::r) 0=[]:=by unfold ei;rw[hst,jb iv];show List.takeWhile bR (c::r)=[];rw[q6,h1];rfl
 rw[Fv];split
 ·rw[hdi];rfl
 ·rfl
end
def rX {c:UInt8}(h:bR c=true):dx c=false:=by have:=iw.1 h;unfold dx;rw[vD,AX,AX,lF,lF,lF];omega
def qS {u:List UInt8}(h:bR (hd u)=true\/(hd u=46/\bR (hd (u.drop 1))=true)):rd u=fL false u 0:=by
 have e1:atC false u (0+1)=hd (u.drop 1):=by have:=mZ (s:=u) (m:=1) (j:=0);exact this
 unfold rd gi;rw[show (u[0]?).getD 0=hd u from rfl,e1];rcases h with h|⟨h1,h2⟩
 ·rw[rX h,h,bE bG,Bool.true_or,bK rfl,mb]
 ·rw[h1,h2,bE co,show (bR 46||(decide ((46:UInt8)=46)&&true))=true from rfl,bK rfl,mb]
def KT {u:List UInt8}(h:dx (hd u)=true):rd u=if 31<(u.takeWhile dX).length then .error 4 else .ok (⟨0,0,(u.takeWhile dX).map upB⟩,(u.takeWhile dX).length):=by unfold rd gi;rw[show (u[0]?).getD 0=hd u from rfl,h,bK rfl,abv,jb zg,jX zg,jx,gC];split<;>rfl
def abi {u:List UInt8}(h:hd u=46)(h2:bR (hd (u.drop 1))=false):rd u=if kg false u 0 then .ok (gz (ia false u 0),dotEnd false u 0)else .error 7:=by
 have e1:atC false u (0+1)=hd (u.drop 1):=by have:=mZ (s:=u) (m:=1) (j:=0);exact this
 unfold rd gi;rw[show (u[0]?).getD 0=hd u from rfl,e1,h,h2,bE co,show (bR 46||(decide ((46:UInt8)=46)&&false))=false from rfl,bE bG,bK rfl];unfold dT;rw[at0,bK h];simp only;split<;>rfl
def KV {u:List UInt8}(h:hd u=39\/hd u=34):rd u=jn u 0:=by
 unfold rd gi;rw[show (u[0]?).getD 0=hd u from rfl];rcases h with h|h
 ·rw[h,bE co,show (bR 39||(decide ((39:UInt8)=46)&&bR (atC false u (0+1))))=false from rfl,bE bG,bE co,bK co,ma]
 ·rw[h,bE co,show (bR 34||(decide ((34:UInt8)=46)&&bR (atC false u (0+1))))=false from rfl,bE bG,bE co,bK co,ma]
def H2 (c:UInt8):Bool:= !(dx c||bR c||decide (c=46)||decide (c=39)||decide (c=34)||decide (c=32)||decide (c=0))
def vm {c:UInt8}{r:List UInt8}(h:H2 c=true):rd (c::r)=opC c (r[0]?) 0:=by unfold H2 at h;simp only[jv,vD,lF]at h;obtain⟨⟨⟨⟨⟨⟨h1,h2⟩,h3⟩,h4⟩,h5⟩,h6⟩,h7⟩:=h;unfold rd gi;rw[show ((c::r)[0]?).getD 0=c from rfl,h1,bE bG,h2,cE h3,bE bG,bE h3,bE (by simp[h4,h5]),mb,aa6 (s:=c::r) (n:=0) (c:=c) rfl h6];rfl
section
variable {μ:Mu}{s:List UInt8}
section
variable {W P:List UInt8}{ty p:Int}
def yY (h1: -999<=p)(h2:p<=999):fu (Lib.itoa p)=p:=by
 rcases wX p with⟨m,rfl,hi⟩|⟨m,hm,rfl,hi⟩
 ·have hl:=qE 3 m bu bu;rw[hi];unfold fu;rw[ng (Au m) (DF m) bu,vB]
 ·have hl:=qE 3 m bu bu;rw[hi];unfold fu;rw[Dq (Au m) (DF m) bu,vB]
end
end
section
variable {μ:Mu}{s:List UInt8}
section
variable {W P:List UInt8}{ty p:Int}{a:List UInt8}{b:Int}
def EI (l:List UInt8):eh (l++[48])=eh l:=by unfold eh Lib.trimRightB;rw[List.reverse_append];simp[A2]
def BU {l:List UInt8}{c:UInt8}(h:c≠48):eh (l++[c])=l++[c]:=by unfold eh Lib.trimRightB;rw[List.reverse_append];simp[A2,h]
end
end
inductive VT:Tok->Prop
 |name {a}:k8 a=true->VT ⟨0,0,a⟩|int {a}:kz a=true->valD 0 a<=2147483647->VT ⟨1,0,a⟩|fS {W P ty p}:RealOK W P ty p->VT ⟨1,ty,e9 W P ty p⟩|logic {a}:a=nE\/a=md->VT ⟨1,5,a⟩|chars {u}:Ay u=true->u.length<=60->VT ⟨1,6,eq u⟩|word {a}:a∈fM->VT ⟨2,0,a⟩|sign {a}:a∈d6->VT ⟨2,0,a⟩
section
variable {a r:List UInt8}
def kQ (h:k8 a=true):a.length<=31/\dx (hd a)=true/\(∀b∈a,dX b=true)/\a.map upB=a/\a≠[]:=by
 unfold k8 QD at h;simp only[cM,dn,jv]at h;obtain⟨⟨⟨h1,h2⟩,h3⟩,h4⟩:=h;cases a with|nil=>cases h2|cons c t=>exact⟨h1,h2,λb hb=>j2.1 h3 b hb,(nh _).2 h4,bG⟩
def Pc (h:k8 a=true)(hr:dX (hd r)=false):rd (a++r)= .ok (⟨0,0,a⟩,a.length):=by obtain⟨h1,h2,h3,h4,h5⟩:=kQ h;rw[KT (by rw[fK h5];exact h2),vy h3 hr,bE bu,h4]
def jO (h:kz a=true):a.length<=10/\(∀b∈a,bR b=true)/\mR a/\a≠[]/\bR (hd a)=true:=by
 obtain⟨h1,h2,h3⟩:=Tu.1 h;have h0:a≠[]:=iD h3;refine⟨h1,h2,h3,h0,?_⟩;cases a with|nil=>exact absurd rfl h0|cons c t=>exact h2 c bG
def Y3 (h:kz a=true)(h2:valD 0 a<=2147483647):fH a= .ok ⟨1,0,a⟩:=by
 obtain⟨f1,f2,f3,f4,_⟩:=jO h;have ha:=ng f2 f4 f1;have hv:fu a=(valD 0 a:Nat):=by unfold fu;rw[ha]
 have hk:tO a=true:=by unfold tO;rw[ha]
 unfold fH;rw[bE (by rw[hk,hv];simp;omega),hv,wY,YY a.length a rfl f2 f3]
def UX (h:kz a=true)(h2:valD 0 a<=2147483647)(hr:bR (hd r)=false)(hdot:hd r=46->kg false r 0=true)(hx:(cQ false r 0).2.2.2=false):rd (a++r)= .ok (⟨1,0,a⟩,a.length):=by obtain⟨f1,f2,f3,f4,f5⟩:=jO h;rw[qS (Or.inl (by rw[fK f4];exact f5)),zG f2 f4 hr hdot,hx,bE bG,Y3 h h2]
section
variable {W P:List UInt8}{ty p:Int}
def vn (h:RealOK W P ty p):P≠[]:=λe=>iD h.pl (by rw[e];rfl)
def qY (W W':List UInt8):Prop:=W'=W\/(W=[48]/\W'=[])
def Vn (h:RealOK W P ty p){W':List UInt8}(hW:qY W W'): ∀b∈W',bR b=true:=by
 rcases hW with rfl|⟨_,rfl⟩
 ·exact h.wd
 ·intro b hb;cases hb
def rQ (h:RealOK W P ty p){W':List UInt8}(hW:qY W W'):dC (gT W')=W/\(gT W').length=oK W:=by
 have h1:dC (gT W)=W:=by rw[<-SD,SE h.wl]
 rcases hW with rfl|⟨h2,rfl⟩
 ·exact⟨h1,by rw[<-P5,h1]⟩
 ·rw[h2];exact⟨rfl,rfl⟩
def Ab (h:RealOK W P ty p):dC (eh P)=P/\(eh P).length=oK P:=by
 have h1:dC (eh P)=P:=by rw[<-VG,VH h.pl]
 exact⟨h1,by rw[<-LA,h1]⟩
def abs (l:List UInt8):eh (l++[48])=eh l:=EI l
def KU {W' y:List UInt8}(h:RealOK W P ty p)(hW:qY W W')(P':List UInt8)(hP':P'=P\/P'=P++[48])(hy:bR (hd y)=false):
 rd (W'++46::(P'++y))=fS W' P' (cQ false y 0).2.1 (cQ false y 0).1 (cQ false y 0).2.2.2 (W'.length+1+P'.length+(if(cQ false y 0).2.2.2 then(cQ false y 0).2.2.1 else 0)):=by
 have hP:=vn h;have hd': ∀b∈P',bR b=true:=by
  rcases hP' with rfl|rfl
  ·exact h.pd
  ·intro b hb;rcases j3.1 hb with hb|hb
   ·exact h.pd b hb
   ·rw[vF.1 hb];rfl
 have hne:P'≠[]:=by rcases hP' with rfl|rfl<;>simp[hP]
 rw[qS ?_,mn (Vn h hW) hd' hne hy];have hW0:=iD h.wl;rcases hW with rfl|⟨_,rfl⟩
 ·left;rw[fK hW0];cases W' with|nil=>exact absurd rfl hW0|cons c t=>exact h.wd c bG
 ·right;refine⟨rfl,?_⟩;show bR (hd (P'++y))=true;rw[fK hne];cases P' with|nil=>exact absurd rfl hne|cons c t=>exact hd' c bG
def EJ (h:RealOK W P ty p){P':List UInt8}(hP':P'=P\/P'=P++[48]):dC (eh P')=P/\(eh P').length=oK P:=by
 rcases hP' with rfl|rfl
 ·exact Ab h
 ·rw[abs];exact Ab h
def xl (h:RealOK W P ty p){W' P':List UInt8}(hW:qY W W')(hP':P'=P\/P'=P++[48]):lm W' P'=W++[46]++P:=by unfold lm;rw[(rQ h hW).1,(EJ h hP').1]
def CT {W' P' y:List UInt8}(h:RealOK W P 1 0)(hW:qY W W')(hP':P'=P\/P'=P++[48])(hy:bR (hd y)=false)(hx:(cQ false y 0).2.2.2=false):
 rd (W'++46::(P'++y))= .ok (⟨1,1,e9 W P 1 0⟩,W'.length+1+P'.length):=by
 have hc:=h.cnt;rw[KU h hW P' hP' hy,hx];unfold fS vv;rw[(rQ h hW).2,(EJ h hP').2,cE bu,Bool.and_false,Bool.or_self,bE bG];unfold gP kh;simp only[eD,and_false,dG,cX,lH];rw[xl h hW hP'];unfold e9 dN;rw[bE co,bE bG];simp
def DS (p:Int): ∃sg D,Lib.itoa p=sg++D/\(sg=[]\/sg=[45])/\(∀b∈D,bR b=true)/\D≠[]/\(sg=[45]->1<=valD 0 D/\p= -(valD 0 D:Nat))/\(sg=[]->p=(valD 0 D:Nat))/\(p=0->D=[48]):=by
 rcases wX p with⟨m,h1,h2⟩|⟨m,h0,h1,h2⟩
 ·refine⟨[],Lib.decDigits m,h2,Or.inl rfl,Au m,DF m,λe=>absurd e bG,λ_=>by rw[vB,h1],λe=> ?_⟩;have:m=0:=bu;subst this;exact n0 bu
 ·exact⟨[45],Lib.decDigits m,h2,Or.inr rfl,Au m,DF m,λ_=>by rw[vB];exact⟨h0,h1⟩,λe=>absurd e bG,λe=>by omega⟩
def Z5:fu [48,48]=0:=by unfold fu;rw[ng co bG co];rfl
def CU {W' z r:List UInt8}(h:RealOK W P ty p)(hp:ty=2\/p≠0)(hW:qY W W')(hz:z=[]\/(z=[48]/\p=0))(hr:bR (hd r)=false):
 rd (W'++46::(P++(dN ty p++(z++r))))= .ok (⟨1,ty,e9 W P ty p⟩,W'.length+1+P.length+(dN ty p).length+z.length):=by
 obtain⟨sg,D,h1,h2,h3,h4,h5,h6,h7⟩:=DS p;have hc:=h.cnt;obtain⟨L,hL,hT⟩: ∃L,((L=68/\ty=2)\/(L=69/\ty=1/\p≠0))/\dN ty p=L::(sg++D):=by
  unfold dN;rcases h.ty with ht|ht
  ·have hp':p≠0:=hp.resolve_left (by rw[ht];decide);exact⟨69,Or.inr ⟨rfl,ht,hp'⟩,by rw[bE (by rw[ht];decide),bK hp',h1];rfl⟩
  ·exact⟨68,Or.inl ⟨rfl,ht⟩,by rw[bK ht,h1];rfl⟩
 have hDz: ∀b∈D++z,bR b=true:=by
  intro b hb;rcases j3.1 hb with hb|hb
  ·exact h3 b hb
  ·rcases hz with rfl|⟨rfl,_⟩
   ·cases hb
   ·rw[vF.1 hb];rfl
 have hy:dN ty p++(z++r)=L::(sg++((D++z)++r)):=by rw[hT];simp
 have hLs:L=69\/L=68:=by rcases hL with h|h;exact Or.inr h.1;exact Or.inl h.1
 have hE:=sO hLs h2 hDz (by simp[h4]) hr;have hyd:bR (hd (L::(sg++((D++z)++r))))=false:=by rw[mN];rcases hLs with rfl|rfl<;>rfl
 have hl3:D.length<=3:=by
  rcases wX p with⟨m,k1,k2⟩|⟨m,k0,k1,k2⟩
  ·have hp1:=h.p1;have hp2:=h.p2;have hm:=qE 3 m bu bu;have:(sg++D).length=(Lib.decDigits m).length:=by rw[<-h1,k2]
   simp only[cC]at this;omega
  ·have hp1:=h.p1;have hp2:=h.p2;have hm:=qE 3 m bu bu;have e:(sg++D).length=(Lib.decDigits m).length+1:=by rw[<-h1,k2];simp
   simp only[cC]at e;rcases h2 with rfl|rfl
   ·have:=h6 rfl;omega
   ·simp at e;omega
 have hzl:(D++z).length<=3:=by
  rcases hz with rfl|⟨rfl,hz0⟩
  ·simpa using hl3
  ·rw[h7 hz0];decide
 have hpre:(Lib.trimPrefix (sg++(D++z)) [45]).length<=3:=by
  rcases h2 with rfl|rfl
  ·rw[fb,(qj hDz).1];exact hzl
  ·rw[(qj hDz).2];exact hzl
 have hval:fu (sg++(D++z))=p:=by
  rcases hz with rfl|⟨rfl,hz0⟩
  ·rw[eU,<-h1];exact yY h.p1 h.p2
  ·have:sg=[]:=by
    rcases h2 with h|h
    ·exact h
    ·have:=h5 h;omega
   rw[this,h7 hz0,hz0];exact Z5
 rw[hy,KU h hW P (Or.inl rfl) hyd,hE];simp only[cX];unfold fS vv;rw[(rQ h hW).2,(Ab h).2,cE bu,cE bu,vH,Bool.or_self,bE bG];unfold gP kh;simp only[cX];rw[hval,xl h hW (Or.inl rfl)];have hlen:W'.length+1+P.length+(1+sg.length+(D++z).length)=W'.length+1+P.length+(dN ty p).length+z.length:=by rw[hT];simp;omega
 rw[hlen];rcases hL with⟨rfl,ht⟩|⟨rfl,ht,hp0⟩
 ·subst ht;rw[bK ⟨rfl,trivial⟩];unfold e9 dN;rw[bK rfl];simp
 ·subst ht;rw[bE bG,bE (λe=>hp0 (TD.1 e))];unfold e9 dN;rw[bE co,bK hp0];simp
end
def KS {u:List UInt8}(hu:u.length<=60)(hr:hd r≠39):rd (eq u++r)= .ok (⟨1,6,eq u⟩,(eq u).length):=by
 have h1:hd (eq u++r)=39:=rfl;rw[KV (Or.inl h1)];have hq: ∀w:List UInt8,eS 39 (dbl w++([39]++r))=some (w,(dbl w).length+1):=by
  intro w
  induction w with
  |nil=>exact qQ (λd t h=>by rintro rfl;exact hr (by have h':r=39::t:=h;rw[h'];rfl))|cons c t ih=>
   by_cases hc:c=39
   ·subst hc;rw[dbl,bK rfl,ew,ew,qR,ih];simp only[d8,cB]
   ·rw[dbl,bE hc,ew,sZ hc,ih];simp only[d8,cB]
 unfold jn;have e1:((eq u++r)[0]?).getD 0=39:=rfl;have e2:(eq u++r).drop (0+1)=dbl u++([39]++r):=by show dbl u++[39]++r=_;simp
 rw[e1,e2,hq];simp only;rw[bE bu,P1];congr 2;omega
def PQ {w:List UInt8}(hw:w.map upB=w):Aq (w++r) 0 w=true:=by unfold Aq;rw[jx,A6 rfl,hw];simp
def ZX: ∀w∈nr,w.map upB=w:=co
def BV: ∀w∈nr,bR (hd (w.drop 1))=false/\hd w=46/\w≠[]/\w.drop 1≠[]:=co
def AJ {w:List UInt8}(hw:w∈nr):rd (w++r)= .ok (gz w,w.length)/\kg false (w++r) 0=true:=by
 obtain⟨h1,h2,h3,h4⟩:=BV w hw;obtain⟨k1,k2,k3,k4⟩:=Hx (Nt w hw) (PQ (r:=r) (ZX w hw));have hok:kg false (w++r) 0=true:=by
  unfold kg;rw[k3,k2];rw[uA]at hw;simp only[j3,eE,AZ,Bh]at hw;rcases hw with hw|hw|hw
  ·have:fM.contains w=true:=by simpa using hw
   rw[this];rfl
  ·rw[cu hw];simp
  ·rw[cu hw];simp
 refine⟨?_,hok⟩;have e2:bR (hd ((w++r).drop 1))=false:=by
  have:(w++r).drop 1=w.drop 1++r:=by
   cases w with|nil=>exact absurd rfl h3|cons c t=>rfl
  rw[this,fK h4];exact h1
 rw[abi (by rw[fK h3];exact h2) e2,hok,bK rfl,k2,k4,gC]
def Ev: ∀w∈d6,(∃c,w=[c]/\H2 c=true)\/(∃c d,w=[c,d]/\H2 c=true/\opC c (some d) 0= .ok (⟨2,0,w⟩,2)):=by
 intro w hw;simp only[d6,eE,AZ,Bh]at hw;rcases hw with rfl|rfl|rfl|rfl|rfl|rfl|rfl|rfl|rfl|rfl|rfl|rfl|rfl
 ·exact Or.inr ⟨_,_,rfl,rfl,rfl⟩
 ·exact Or.inr ⟨_,_,rfl,rfl,rfl⟩
 ·exact Or.inr ⟨_,_,rfl,rfl,rfl⟩
 all_goals exact Or.inl ⟨_,rfl,rfl⟩
end
def src (t:Tok)(x:List UInt8):Prop:=x=t.text\/(t.text=48::x/\hd x=46)
def jY {t:Tok}{x:List UInt8}(h:bR (hd t.text)=false)(hx:src t x):x=t.text:=by
 rcases hx with h1|⟨h1,_⟩
 ·exact h1
 ·rw[h1]at h;exact absurd h (by rw[mN];decide)
def Ph {a x:List UInt8}(h:kz a=true)(hx:src ⟨1,0,a⟩ x):x=a:=by
 rcases hx with h1|⟨h1,h2⟩
 ·exact h1
 ·obtain⟨_,f2,_⟩:=jO h;simp only at h1;cases x with|nil=>cases h2|cons c t=>have h3:c=46:=h2;have:=f2 c (by rw[h1];simp);rw[h3]at this;exact absurd this co
section
variable {W P:List UInt8}{ty p:Int}
def xu {x:List UInt8}(h:RealOK W P ty p)(hx:src ⟨1,ty,e9 W P ty p⟩ x): ∃W',qY W W'/\x=W'++46::(P++dN ty p):=by
 rcases hx with h1|⟨h1,h2⟩
 ·exact⟨W,Or.inl rfl,h1⟩
 ·simp only at h1;refine⟨[],Or.inr ⟨?_,rfl⟩,?_⟩
  all_goals
   unfold e9 at h1;have hW:=iD h.wl;cases hw:W with
   |nil=>exact absurd hw hW|cons c w=>
    rw[hw,ew]at h1;injection h1 with h3 h4;cases w with
    |nil=>first|(rw[h3];done)|(rw[fb]at h4;rw[<-h4];rfl)
    |cons d w=>rw[<-h4]at h2;have h5:d=46:=h2;have:=h.wd d (by rw[hw];simp);rw[h5]at this;exact absurd this co
end
def qo {t:Tok}(h:VT t):t.text≠[]/\hd t.text≠32:=by
 cases h with
 |name h=>obtain⟨_,h2,_,_,h5⟩:=kQ h;refine⟨h5,λe=> ?_⟩;simp only at e;rw[e]at h2;exact absurd h2 co
 |int h _=>obtain⟨_,_,_,h4,h5⟩:=jO h;refine⟨h4,λe=> ?_⟩;simp only at e;rw[e]at h5;exact absurd h5 co
 |fS h=>
  rename_i W P ty p;have hW:=iD h.wl;refine⟨by show e9 W P ty p≠[];unfold e9;simp,λe=> ?_⟩;have e':hd (W++46::(P++dN ty p))=32:=e;rw[fK hW]at e';cases W with|nil=>exact hW rfl|cons c w=>have:=h.wd c bG;rw[show c=32 from e']at this;exact absurd this co
 |logic h=>rcases h with rfl|rfl<;>decide
 |chars h1 h2=>exact⟨by simp[eq],by show (39:UInt8)≠32;decide⟩|word h=>rename_i a;exact(by decide: ∀w∈fM,w≠[]/\hd w≠32) a h|sign h=>rename_i a;exact(by decide: ∀w∈d6,w≠[]/\hd w≠32) a h
def Vb {t:Tok}{x:List UInt8}(h:VT t)(hx:src t x):x≠[]/\hd x≠32:=by
 rcases hx with rfl|⟨_,h2⟩
 ·exact qo h
 ·refine⟨?_,by rw[h2];decide⟩;rintro rfl;exact absurd h2 co
def Ll {t:Tok}(h:VT t)(hd0:bR (hd t.text)=true):(kz t.text=true/\ ∀b∈t.text,bR b=true)\/ ∃W P ty p,RealOK W P ty p/\t.text=W++46::(P++dN ty p):=by
 cases h with
 |name h=>exact absurd (kQ h).2.1 (by rw[rX hd0];simp)|int h _=>exact Or.inl ⟨h,(jO h).2.1⟩|fS h=>exact Or.inr ⟨_,_,_,_,h,rfl⟩|logic h=>rcases h with rfl|rfl<;>exact absurd hd0 co
 |chars h1 h2=>exact absurd hd0 (show ¬bR 39=true by decide)|word h=>exact absurd hd0 (by rename_i a;have:=(by decide: ∀w∈fM,bR (hd w)=false) a h;simp[this])|sign h=>exact absurd hd0 (by rename_i a;have:=(by decide: ∀w∈d6,bR (hd w)=false) a h;simp[this])
def aby {t:Tok}(h:VT t)(hd0:dx (hd t.text)=true):t.kind=0/\k8 t.text=true:=by
 cases h with
 |name h=>exact⟨rfl,h⟩|int h _=>exact absurd hd0 (by rw[rX (jO h).2.2.2.2];simp)|fS h=>
  rename_i W P ty p;have hW:=iD h.wl;have e:dx (hd (W++46::(P++dN ty p)))=true:=hd0;rw[fK hW]at e;cases W with|nil=>exact absurd rfl hW|cons c w=>exact absurd e (by rw[mN,rX (h.wd c bG)];simp)
 |logic h=>rcases h with rfl|rfl<;>exact absurd hd0 co
 |chars h1 h2=>exact absurd hd0 (show ¬dx 39=true by decide)|word h=>exact absurd hd0 (by rename_i a;have:=(by decide: ∀w∈fM,dx (hd w)=false) a h;simp[this])|sign h=>exact absurd hd0 (by rename_i a;have:=(by decide: ∀w∈d6,dx (hd w)=false) a h;simp[this])
def abx {t:Tok}(h:VT t)(hd0:hd t.text=46):t.text∈nr:=by
 cases h with
 |name h=>exact absurd (kQ h).2.1 (by simp only at hd0;rw[hd0];decide)|int h _=>exact absurd (jO h).2.2.2.2 (by simp only at hd0;rw[hd0];decide)|fS h=>
  rename_i W P ty p;have hW:=iD h.wl;have e:hd (W++46::(P++dN ty p))=46:=hd0;rw[fK hW]at e;cases W with|nil=>exact absurd rfl hW|cons c w=>exact absurd (h.wd c bG) (by rw[show c=46 from e];decide)
 |logic h=>exact zq (by simpa using h)|chars h1 h2=>exact absurd hd0 (by show (39:UInt8)≠46;decide)|word h=>exact zu h|sign h=>rename_i a;exact absurd hd0 ((by decide: ∀w∈d6,hd w≠46) a h)
def XB {t:Tok}(h:VT t)(hd0:hd t.text=39): ∃u,t.text=eq u:=by
 cases h with
 |name h=>exact absurd (kQ h).2.1 (by simp only at hd0;rw[hd0];decide)|int h _=>exact absurd (jO h).2.2.2.2 (by simp only at hd0;rw[hd0];decide)|fS h=>
  rename_i W P ty p;have hW:=iD h.wl;have e:hd (W++46::(P++dN ty p))=39:=hd0;rw[fK hW]at e;cases W with|nil=>exact absurd rfl hW|cons c w=>exact absurd (h.wd c bG) (by rw[show c=39 from e];decide)
 |logic h=>rcases h with rfl|rfl<;>exact absurd hd0 co
 |chars h1 h2=>exact⟨_,rfl⟩|word h=>rename_i a;exact absurd hd0 ((by decide: ∀w∈fM,hd w≠39) a h)|sign h=>rename_i a;exact absurd hd0 ((by decide: ∀w∈d6,hd w≠39) a h)
def Xj {v:List UInt8}{t:Tok}{e:Nat}(h:rd v= .ok (t,e))(hk:t.kind=0):t.text.length<=v.length:=by
 by_cases hl:dx (hd v)=true
 ·rw[KT hl]at h;split at h
  ·cases h
  ·injection h with h;injection h with h _;subst h;show ((v.takeWhile dX).map upB).length<=v.length;rw[pj];exact(List.takeWhile_prefix dX).length_le
 ·exfalso;unfold rd gi at h;rw[show (v[0]?).getD 0=hd v from rfl,bE hl]at h;have num: ∀q:Except Int (Tok×Nat),(∀x,q= .ok x->x.1.kind≠0)->rB (noK q)≠ .ok (t,e):=by intro q hq e1;rw[mb]at e1;exact hq _ e1 hk
  split at h
  ·refine num _ (λx hx=> ?_) h;unfold fL at hx;simp only at hx;split at hx
   ·split at hx
    ·rename_i t' ht;injection hx with hx;subst hx;unfold fH at ht;split at ht
     ·cases ht
     ·injection ht with ht;subst ht;show (1:Int)≠0;decide
    ·cases hx
   ·rw[(sb hx).1];decide
  ·split at h
   ·split at h
    ·injection h with h;injection h with h _;rw[<-h]at hk;unfold gz at hk;split at hk
     ·exact absurd hk (show (1:Int)≠0 by decide)
     ·exact absurd hk (show (2:Int)≠0 by decide)
    ·cases h
   ·split at h
    ·rw[ma]at h;unfold jn at h;split at h
     ·cases h
     ·split at h
      ·cases h
      ·injection h with h;injection h with h _;rw[<-h]at hk;exact absurd hk (show (1:Int)≠0 by decide)
    ·refine num _ (λx hx=> ?_) h;unfold iE at hx;simp only at hx;split at hx
     ·injection hx with hx;subst hx;show (2:Int)≠0;decide
     ·split at hx
      ·injection hx with hx;subst hx;show (2:Int)≠0;decide
      ·split at hx
       ·injection hx with hx;subst hx;show (2:Int)≠0;decide
       ·split at hx
        ·injection hx with hx;subst hx;show (2:Int)≠0;decide
        ·cases hx
def Y9 {u:List UInt8}{t t2:Tok}(h0:hd u≠32)(hl:Lex u [t,t2]): ∃e,rd u= .ok (t,e)/\e<u.length/\(t2.kind=0->t2.text.length+e<=u.length):=by
 cases hl with
 |cons h1 h2 h3 h4=>
  rename_i v e;have hb:cH u=0:=by
   cases u with|nil=>rfl|cons c r=>unfold cH;rw[bE (show c≠32 from h0)]
  rw[hb,jx]at h1;subst h1;refine⟨e,h3,?_⟩;cases h4 with
  |cons k1 k2 k3 k4=>
   rename_i w e2;have hw:w.length<=u.length-e:=by rw[<-k1,gZ,gZ];omega
   have hw0:w.length≠0:=λe=>k2 (kM e);refine⟨bu,λhk=> ?_⟩;have:=Xj k3 hk;omega
def vp (t t2:Tok):Prop:=t.kind=1/\(t.type=0\/(t.type=1/\(69:UInt8) ∉ t.text))/\(t2.text=[69]\/t2.text=[68])
def Uw {t2:Tok}(h2:VT t2)(hdd:bR (hd t2.text)=false)(hs: ¬(t2.text=[69]\/t2.text=[68])):
 (∀r,(cQ false (t2.text++r) 0).2.2.2=false)\/ ∃c D r,t2.kind=0/\t2.text=c::(D++r)/\(c=69\/c=68)/\D≠[]/\(∀b∈D,bR b=true)/\bR (hd r)=false:=by
 by_cases hl:dx (hd t2.text)=true
 ·obtain⟨hk,hc⟩:=aby h2 hl;obtain⟨_,_,f3,f4,f5⟩:=kQ hc;obtain⟨c,q,hcq⟩: ∃c q,t2.text=c::q:=by
   cases h:t2.text with|nil=>exact absurd h f5|cons c q=>exact⟨c,q,rfl⟩
  rw[hcq]at f3 f4 hs |-;have hup:zn c=false:=by have:=(nh (c::q)).1 f4;rw[vJ,vD]at this;exact this.1
  by_cases hED:c=69\/c=68
  ·cases q with
   |nil=>exact absurd (by rcases hED with rfl|rfl<;>simp) hs|cons d q=>
    have hdp:=f3 d bG;by_cases hdg:bR d=true
    ·refine Or.inr ⟨c,(d::q).takeWhile bR,(d::q).dropWhile bR,hk,by rw[List.takeWhile_append_dropWhile],hED,?_,rh _,?_⟩
     ·rw[q6,hdg];simp
     ·cases hq:(d::q).dropWhile bR with|nil=>rfl|cons x y=>have:=F4 bR (l:=d::q) (by rw[hq];simp);simp only[hq,List.head_cons]at this;exact this
    ·left;intro r;have n43:d≠43:=by rintro rfl;exact absurd hdp co
     have n45:d≠45:=by rintro rfl;exact absurd hdp co
     exact Wg (by simpa using hdg) n43 n45
  ·left;intro r;refine wM ⟨?_,?_,?_,?_⟩<;>rw[ew,mN]
   ·exact λe=>hED (Or.inl e)
   ·rintro rfl;exact absurd hup co
   ·exact λe=>hED (Or.inr e)
   ·rintro rfl;exact absurd hup co
 ·left;intro r;refine wM ?_;rw[fK (qo h2).1];refine⟨?_,?_,?_,?_⟩<;>(intro e;rw[e]at hl;exact hl co)
def tv (t t2:Tok):Prop:= ∃k,k<=1/\(k=1-> ∃q,t2.text=48::46::q)/\ ∀x r,src t x->rd (x++(t2.text++r))= .ok (t,x.length+k)
def U7 {t w:List UInt8}(h:kl t=some w):4<=w.length:=by
 unfold kl at h
 repeat' split at h
 all_goals first|(injection h with h;subst h;decide)|cases h
def aa8 {c:UInt8}{d:Option UInt8}{e:Nat}(h:opC c d 0= .ok (⟨2,0,[c]⟩,e)):e=1:=by
 unfold opC at h;split at h
 ·rename_i w hw;injection h with h;injection h with h _;injection h with _ _ h;have:=U7 hw;rw[h]at this;simp at this
 ·split at h
  ·injection h with h;injection h with h _;injection h with _ _ h;simp at h
  ·split at h
   ·injection h with h;injection h with _ h;omega
   ·split at h
    ·injection h with h;injection h with _ h;omega
    ·cases h
def Ts {a:List UInt8}{t2:Tok}(h:a∈d6)(h2:VT t2){e:Nat}(he:rd (a++t2.text)= .ok (⟨2,0,a⟩,e)):tv ⟨2,0,a⟩ t2:=by
 have hx: ∀x,src ⟨2,0,a⟩ x->x=a:=λx=>jY ((by decide: ∀w∈d6,bR (hd w)=false) a h);refine⟨0,bu,bu,λx r hxs=> ?_⟩;rw[hx x hxs];rcases Ev a h with⟨c,rfl,hc⟩|⟨c,d,rfl,hc,ho⟩
 ·have h0:=(qo h2).1;have hg:(t2.text++r)[0]? =t2.text[0]? :=by
   cases hq:t2.text with|nil=>exact absurd hq h0|cons y z=>rfl
  rw[AY,vm hc]at he;rw[AY,vm hc,hg,he,aa8 he];rfl
 ·rw[ew,vm hc];exact ho
def GJ {a:List UInt8}{t t2:Tok}(h:a∈nr)(ht:t=gz a)(hx:t.text=a):tv t t2:=by
 refine⟨0,bu,bu,λx r hxs=> ?_⟩;have:x=a:=by rw[<-hx];refine jY ?_ hxs;rw[hx,(BV a h).2.1];rfl
 rw[this,(AJ h).1,ht];rfl
def xh: ∀(u l t:List UInt8) (k:Nat),eS 39 (dbl u++39::39::l)=some (t,k)->u.length<t.length
 |[],l,t,k,h=>by
  rw[dbl,fb,qR]at h;cases hq:eS 39 l with|none=>rw[hq]at h;cases h|some x=>rw[hq]at h;simp only[d8,bJ,dp]at h;rw[<-h.1];simp
 |c::r,l,t,k,h=>by
  by_cases hc:c=39
  ·subst hc;rw[dbl,bK rfl,ew,ew,qR]at h;cases hq:eS 39 (dbl r++39::39::l)with|none=>rw[hq]at h;cases h|some x=>rw[hq]at h;simp only[d8,bJ,dp]at h;have:=xh r l x.1 x.2 hq;rw[<-h.1];simp;omega
  ·rw[dbl,bE hc,ew,sZ hc]at h;cases hq:eS 39 (dbl r++39::39::l)with|none=>rw[hq]at h;cases h|some x=>rw[hq]at h;simp only[d8,bJ,dp]at h;have:=xh r l x.1 x.2 hq;rw[<-h.1];simp;omega
def P0 {u v:List UInt8}(h:eq u=eq v):u=v:=by
 have h1:dbl u=dbl v:=by unfold eq at h;simp only[ew,fb,sf,kK]at h;exact List.append_cancel_right h
 rw[<-Pk u,h1,Pk]
def Qd {u:List UInt8}{t2:Tok}(hu:u.length<=60)(h2:VT t2){e:Nat}(he:rd (eq u++t2.text)= .ok (⟨1,6,eq u⟩,e)):tv ⟨1,6,eq u⟩ t2:=by
 have h39:hd t2.text≠39:=by
  intro h39;obtain⟨u2,hu2⟩:=XB h2 h39;rw[hu2,KV (Or.inl rfl)]at he;unfold jn at he;have e1:((eq u++eq u2)[0]?).getD 0=39:=rfl;have e2:(eq u++eq u2).drop (0+1)=dbl u++39::39::(dbl u2++[39]):=by show dbl u++[39]++([39]++dbl u2++[39])=_;simp
  rw[e1,e2]at he;cases hq:eS 39 (dbl u++39::39::(dbl u2++[39]))with
  |none=>rw[hq]at he;cases he|some x=>
   rw[hq]at he;simp only at he;split at he
   ·cases he
   ·injection he with he;injection he with he _;injection he with _ _ he;have:=xh _ _ _ _ hq;rw[P0 he]at this;omega
 refine⟨0,bu,bu,λx r hx=> ?_⟩;have:x=eq u:=jY (t:=⟨1,6,eq u⟩) rfl hx;rw[this,KS hu (by rw[fK (qo h2).1];exact h39)];rfl
def Tr {a:List UInt8}{t2:Tok}(h:k8 a=true)(h2:VT t2){e:Nat}(he:rd (a++t2.text)= .ok (⟨0,0,a⟩,e)):tv ⟨0,0,a⟩ t2:=by
 obtain⟨h1,hl,h3,h4,h5⟩:=kQ h;have hp:dX (hd t2.text)=false:=by
  cases hq:dX (hd t2.text)with
  |false=>rfl|true=>
   exfalso;rw[KT (by rw[fK h5];exact hl)]at he;split at he
   ·cases he
   ·injection he with he;injection he with he _;injection he with _ _ he;have hlen:=m6 List.length he;rw[pj]at hlen;obtain⟨c,y,hcy⟩: ∃c y,t2.text=c::y:=by
     cases hy:t2.text with|nil=>rw[hy]at hq;exact absurd hq co|cons c y=>exact⟨c,y,rfl⟩
    rw[hcy,mN]at hq;have hpre:a++[c] <+:(a++t2.text).takeWhile dX:=by rw[hcy];have:(a++c::y).takeWhile dX=a++(c::y).takeWhile dX:=List.takeWhile_append_of_pos h3;rw[this,q6,hq];simp
    have:=hpre.length_le;simp at this;omega
 refine⟨0,bu,bu,λx r hx=> ?_⟩;have hx':x=a:=by
  refine jY (t:=⟨0,0,a⟩) ?_ hx;show bR (hd a)=false;cases hq:bR (hd a)with|false=>rfl|true=>rw[rX hq]at hl;cases hl
 rw[hx',Pc h (by rw[fK (qo h2).1];exact hp)];rfl
def Wi {a:List UInt8}{t2:Tok}(h:kz a=true)(hv:valD 0 a<=2147483647)(h2:VT t2)(hs: ¬(t2.text=[69]\/t2.text=[68])){e:Nat}(he:rd (a++t2.text)= .ok (⟨1,0,a⟩,e))(hlt:e<(a++t2.text).length):tv ⟨1,0,a⟩ t2:=by
 obtain⟨f1,f2,f3,f4,f5⟩:=jO h;have h0:=(qo h2).1;rw[qS (Or.inl (by rw[fK f4];exact f5))]at he;have hd0:bR (hd t2.text)=false:=by
  cases hq:bR (hd t2.text)with
  |false=>rfl|true=>
   exfalso;rcases Ll h2 hq with⟨k1,k2⟩|⟨W,P,ty,p,k1,k2⟩
   ·have hall: ∀b∈a++t2.text,bR b=true:=by
     intro b hb;rcases j3.1 hb with hb|hb
     ·exact f2 b hb
     ·exact k2 b hb
    have:=zG (W:=a++t2.text) (y:=[]) hall (by simp[f4]) rfl (λe=>absurd e co);rw[eU,show (cQ false [] 0).2.2.2=false from rfl,bE bG]at this;rw[this]at he;split at he
    ·injection he with he;injection he with _ he;omega
    ·cases he
   ·have hall: ∀b∈a++W,bR b=true:=by
     intro b hb;rcases j3.1 hb with hb|hb
     ·exact f2 b hb
     ·exact k1.wd b hb
    have := mn (W := a ++ W) (P := P) (y := dN ty p) hall k1.pd (vn k1) (by
     cases hq:dN ty p with
     |nil=>rfl
     |cons c q=>exact RG (ty:=ty) (p:=p) c q hq)
    rw[eV,<-k2]at this;rw[this]at he;have:=(sb he).2.1;exact absurd this (show ¬((0:Int)=1\/(0:Int)=2)by decide)
 have hdot:hd t2.text=46-> ∀r,kg false (t2.text++r) 0=true:=λh46 r=>(AJ (abx h2 h46)).2;have hno: ∀r,(cQ false (t2.text++r) 0).2.2.2=false:=by
  rcases Uw h2 hd0 hs with hn|⟨c,D,r,hk,hb,hc,hD,hdd,hr⟩
  ·exact hn
  ·exfalso;have hcc:c≠46:=by rcases hc with rfl|rfl<;>decide
   have hcd:bR c=false:=by rcases hc with rfl|rfl<;>rfl
   have hE:=sO (sg:=[]) hc (Or.inl rfl) hdd hD hr;rw[fb]at hE;have:=zG (W:=a) (y:=t2.text) f2 f4 hd0 (by rw[hb,mN];exact λe=>absurd e hcc);rw[hb,hE]at this;rw[hb,this]at he;simp only[cX]at he;have:=(sb he).2.1;exact absurd this (show ¬((0:Int)=1\/(0:Int)=2)by decide)
 refine⟨0,bu,bu,λx r hx=> ?_⟩;rw[Ph h hx,UX h hv (by rw[fK h0];exact hd0) (by rw[fK h0];exact λe=>hdot e r) (hno r)];rfl
section
variable {W P:List UInt8}{ty p:Int}
def n3 {a b:List UInt8}(ha: ∀x∈a,bR x=true)(hb: ∀x∈b,bR x=true): ∀x∈a++b,bR x=true:=by
 intro x hx;rcases j3.1 hx with h|h
 ·exact ha x h
 ·exact hb x h
def Pe {W y:List UInt8}(hw: ∀b∈W,bR b=true)(h0:W≠[]):bR (hd (W++y))=true:=by
 rw[fK h0];cases W with|nil=>exact absurd rfl h0|cons c t=>exact hw c bG
def UO {P Q:List UInt8}(hP:mR P.reverse)(hQ:mR Q)(h:dC (eh (P++Q))=P):Q=[48]:=by
 have key: ∀(c:UInt8) (r:List UInt8),Q=c::r->c≠48->False:=by
  rintro c r rfl hc;have h1:P++[c] <+: eh (P++c::r):=by
   have h2:P++c::r=(P++[c])++r:=bG;rw[h2];have go: ∀(n:Nat) (r:List UInt8),r.length=n->P++[c] <+: eh (P++[c]++r):=by
    intro n
    induction n with
    |zero=>intro r hr;rw[kM hr,eU,BU hc];exact List.prefix_refl _|succ n ih=>
     intro r hr;rcases List.eq_nil_or_concat r with h3|⟨q,x,h3⟩
     ·rw[h3]at hr;cases hr
     ·rw[List.concat_eq_append]at h3;rw[h3]at hr |-;rw[<-eV];by_cases hx:x=48
      ·rw[hx,EI];exact ih q (by simpa using hr)
      ·rw[BU hx,eV];exact List.prefix_append _ _
   exact go r.length r rfl
  have h2:=h1.length_le;have h3:eh (P++c::r)≠[]:=λe=>by rw[e]at h2;simp at h2
  unfold dC at h;rw[bE h3]at h;rw[h]at h2;simp at h2;omega
 rcases hQ with h1|⟨c,r,h1,h2⟩
 ·obtain⟨c,rfl⟩:=Ai.1 h1;by_cases hc:c=48
  ·rw[hc]
  ·exact absurd (key c [] rfl hc) id
 ·exact absurd (key c r h1 h2) id
def XA {Q:List UInt8}(hd: ∀b∈Q,bR b=true)(hQ:mR Q)(h:valD 0 Q=0):Q=[48]:=by
 rcases hQ with h1|⟨c,r,h1,h2⟩
 ·obtain⟨c,rfl⟩:=Ai.1 h1;have h3:=iw.1 (hd c bG);have h4:valD 0 [c]=0*10+(c.toNat-48):=by rw[iB,my]
  rw[h]at h4;have:c=48:=se (by show c.toNat=48;omega);rw[this]
 ·have:=Lk (c:=c) (r:=r) (by rw[<-h1];exact hd) h2;rw[<-h1]at this;omega
def Qe {t2:Tok}(h:RealOK W P 1 0)(h2:VT t2)(hs: ¬(t2.text=[69]\/t2.text=[68])){e:Nat}(he:rd (e9 W P 1 0++t2.text)= .ok (⟨1,1,e9 W P 1 0⟩,e))
 (hlt:e<(e9 W P 1 0++t2.text).length) (hn:t2.kind=0->t2.text.length+e<=(e9 W P 1 0++t2.text).length):tv ⟨1,1,e9 W P 1 0⟩ t2:=by
 have h0:=(qo h2).1;have hW0:=iD h.wl;have hT:e9 W P 1 0=W++46::P:=by unfold e9 dN;rw[bE co,bE bG,eU]
 have hsplit: ∀y,e9 W P 1 0++y=W++46::(P++y):=λy=>by rw[hT];simp
 have hl0:(e9 W P 1 0).length=W.length+1+P.length:=by rw[hT];simp;omega
 rw[hsplit]at he hlt hn;simp only[cC,cB]at hlt hn;rw[qS (Or.inl (Pe h.wd hW0))]at he;have hsrc: ∀x,src ⟨1,1,e9 W P 1 0⟩ x-> ∃W',qY W W'/\x=W'++46::P:=by intro x hx;obtain⟨W',k1,k2⟩:=xu h hx;exact⟨W',k1,by rw[k2];unfold dN;rw[bE co,bE bG,eU]⟩
 cases hdg:bR (hd t2.text)with
 |true=>
  rcases Ll h2 hdg with⟨k1,k2⟩|⟨W2,P2,ty2,p2,k1,k2⟩
  ·exfalso;have:=mn (W:=W) (P:=P++t2.text) (y:=[]) h.wd (n3 h.pd k2) (by simp[h0]) rfl;rw[eU]at this;rw[this]at he;have:=(sb he).2.2;simp only[show (cQ false [] 0).2.2.2=false from rfl,eD,dG,cC]at this;omega
  ·have hnd:bR (hd (46::(P2++dN ty2 p2)))=false:=rfl;have hex: ∀y,(cQ false (46::y) 0).2.2.2=false:=λy=>wM (by rw[mN];decide);have:=mn (W:=W) (P:=P++W2) (y:=46::(P2++dN ty2 p2)) h.wd (n3 h.pd k1.wd) (by simp[vn h]) hnd;rw[eV,<-k2,hex]at this;rw[this]at he;unfold fS at he;split at he
   ·cases he
   ·injection he with he;injection he with he _;unfold gP kh at he;simp only[eD,and_false,dG,cX]at he;injection he with _ _ he;have hw:=(rQ h (Or.inl rfl)).1;unfold lm at he;rw[hw,hT]at he;have he':dC (eh (P++W2))=P:=by
     have:W++46::dC (eh (P++W2))=W++46::P:=by rw[<-he];simp
     have:=F5 this;injection this
    have hW2:=UO h.pl k1.wl he';refine⟨1,cw 1,λ_=>⟨P2++dN ty2 p2,by rw[k2,hW2];rfl⟩,λx r hx=> ?_⟩;obtain⟨W',k3,k4⟩:=hsrc x hx;have hx':x++(t2.text++r)=W'++46::((P++[48])++(46::(P2++(dN ty2 p2++r)))):=by rw[k4,k2,hW2];simp
    rw[hx',CT h k3 (Or.inr rfl) rfl (hex _),k4];congr 2;simp;omega
 |false=>
  have hno: ∀r,(cQ false (t2.text++r) 0).2.2.2=false:=by
   rcases Uw h2 hdg hs with hh|⟨c,D,r,hk,hb,hc,hD,hdd,hr⟩
   ·exact hh
   ·exfalso;have hE:=sO (sg:=[]) hc (Or.inl rfl) hdd hD hr;rw[fb]at hE;have:=mn (W:=W) (P:=P) (y:=t2.text) h.wd h.pd (vn h) hdg;rw[hb,hE]at this;rw[hb,this]at he;simp only[cX]at he;have h3:=(sb he).2.2;have h4:=hn hk;simp only[cG]at h3;omega
  refine⟨0,bu,bu,λx r hx=> ?_⟩;obtain⟨W',k3,k4⟩:=hsrc x hx;have hx':x++(t2.text++r)=W'++46::(P++(t2.text++r)):=by rw[k4];simp
  rw[hx',CT h k3 (Or.inl rfl) (by rw[fK h0];exact hdg) (hno r),k4];congr 2;simp;omega
def Yz {sg D:List UInt8}(hsg:sg=[]\/sg=[45])(hd: ∀b∈D,bR b=true)(h0:D≠[])(hl:D.length<=10):fu (sg++D)=if sg=[]then((valD 0 D:Nat):Int)else -((valD 0 D:Nat):Int):=by
 unfold fu;rcases hsg with rfl|rfl
 ·rw[fb,ng hd h0 hl,bK rfl]
 ·rw[AY,Dq hd h0 hl,bE bG]
def Qf {t2:Tok}(h:RealOK W P ty p)(hp:ty=2\/p≠0)(h2:VT t2){e:Nat}(he:rd (e9 W P ty p++t2.text)= .ok (⟨1,ty,e9 W P ty p⟩,e))
 (hlt:e<(e9 W P ty p++t2.text).length):tv ⟨1,ty,e9 W P ty p⟩ t2:=by
 have h0:=(qo h2).1;have hW0:=iD h.wl;have hsplit: ∀y,e9 W P ty p++y=W++46::(P++(dN ty p++y)):=λy=>by unfold e9;simp
 rw[hsplit]at he hlt;simp only[cC,cB]at hlt;cases hdg:bR (hd t2.text)with
 |false=>
  refine⟨0,bu,bu,λx r hx=> ?_⟩;obtain⟨W',k3,k4⟩:=xu h hx;have hx':x++(t2.text++r)=W'++46::(P++(dN ty p++([]++(t2.text++r)))):=by rw[k4];simp
  rw[hx',CU h hp k3 (Or.inl rfl) (by rw[fK h0];exact hdg),k4];congr 2;simp;omega
 |true=>
  rw[qS (Or.inl (Pe h.wd hW0))]at he;obtain⟨sg,D,h1,hsg,h3,h4,h5,h6,h7⟩:=DS p;obtain⟨L,hL,hT⟩: ∃L,((L=68/\ty=2)\/(L=69/\ty=1/\p≠0))/\dN ty p=L::(sg++D):=by
   unfold dN;rcases h.ty with ht|ht
   ·have hp':p≠0:=hp.resolve_left (by rw[ht];decide);exact⟨69,Or.inr ⟨rfl,ht,hp'⟩,by rw[bE (by rw[ht];decide),bK hp',h1];rfl⟩
   ·exact⟨68,Or.inl ⟨rfl,ht⟩,by rw[bK ht,h1];rfl⟩
  have hLs:L=69\/L=68:=by rcases hL with h|h;exact Or.inr h.1;exact Or.inl h.1
  have hyd: ∀y,bR (hd (L::y))=false:=λy=>by rw[mN];rcases hLs with rfl|rfl<;>rfl
  rcases Ll h2 hdg with⟨k1,k2⟩|⟨W2,P2,ty2,p2,k1,k2⟩
  ·exfalso;have hE:=sO (r:=[]) hLs hsg (n3 h3 k2) (by simp[h4]) rfl;have:=mn (W:=W) (P:=P) (y:=L::(sg++((D++t2.text)++[]))) h.wd h.pd (vn h) (hyd _);rw[hE]at this;have hy:dN ty p++t2.text=L::(sg++((D++t2.text)++[])):=by rw[hT];simp
   rw[hy,this]at he;simp only[cX]at he;have h8:=(sb he).2.2;rw[hT]at hlt;simp only[cC,cB]at h8 hlt;omega
  ·have hW2:=iD k1.wl;have hE:=sO (r:=46::(P2++dN ty2 p2)) hLs hsg (n3 h3 k1.wd) (by simp[h4]) rfl;have:=mn (W:=W) (P:=P) (y:=L::(sg++((D++W2)++46::(P2++dN ty2 p2)))) h.wd h.pd (vn h) (hyd _);rw[hE]at this;have hy:dN ty p++t2.text=L::(sg++((D++W2)++46::(P2++dN ty2 p2))):=by rw[hT,k2];simp
   rw[hy,this]at he;simp only[cX]at he;unfold fS at he;split at he
   ·cases he
   ·rename_i hlong;injection he with he;injection he with he _;have hl3:(D++W2).length<=3:=by
     unfold vv at hlong;simp only[pk,jw,dn,not_or]at hlong;have h8:=hlong.2;rcases hsg with rfl|rfl
     ·rw[fb,(qj (n3 h3 k1.wd)).1]at h8;omega
     ·rw[(qj (n3 h3 k1.wd)).2]at h8;omega
    obtain⟨v,hv⟩: ∃v,v=fu (sg++(D++W2)):=⟨_,rfl⟩;have hvv:=Yz hsg (n3 h3 k1.wd) (by simp[h4]) (by omega:(D++W2).length<=10);rw[<-hv]at hvv;have hbd:=(nq (D++W2) 0 (n3 h3 k1.wd)).2;have h10:10^(D++W2).length<=10^3:=A0 bu hl3;have hr1: -999<=v/\v<=999:=by rw[hvv];split<;>omega
    have hval:valD 0 (D++W2)=valD 0 D*10^W2.length+valD 0 W2:=by rw[<-FY];unfold valD;rw[List.foldl_append]
    have hW10:10<=10^W2.length:=by
     have:1<=W2.length:=by cases hq:W2 with|nil=>exact absurd hq hW2|cons c r=>simp
     calc 10=10^1:=rfl
      _<=10^W2.length:=A0 bu this
    have hmul:valD 0 D*10<=valD 0 D*10^W2.length:=Gd _ hW10;have hvp:v=p:=by
     unfold gP kh at he;simp only[cX,j6]at he;rw[<-hv,xl h (Or.inl rfl) (Or.inl rfl)]at he;have hin:Lib.itoa v=Lib.itoa p->v=p:=λe=>by rw[<-yY hr1.1 hr1.2,e,yY h.p1 h.p2]
     rcases hL with⟨rfl,ht⟩|⟨rfl,ht,hp0⟩
     ·subst ht;rw[bK rfl]at he;injection he with _ _ he;unfold e9 dN at he;rw[bK rfl]at he;apply hin;have:(W++[46]++P++[68])++Lib.itoa v=(W++[46]++P++[68])++Lib.itoa p:=by rw[he];simp
      exact F5 this
     ·subst ht;rw[bE co]at he;split at he
      ·injection he with _ _ he;unfold e9 dN at he;rw[bE co,bK hp0]at he;have:=m6 List.length he;simp at this
      ·injection he with _ _ he;unfold e9 dN at he;rw[bE co,bK hp0]at he;apply hin;have:(W++[46]++P++[69])++Lib.itoa v=(W++[46]++P++[69])++Lib.itoa p:=by rw[eV (W++[46]++P),he];simp
       exact F5 this
    have hp0:p=0/\valD 0 W2=0:=by
     rcases hsg with rfl|rfl
     ·have h8:=h6 rfl;rw[bK rfl]at hvv;omega
     ·have h8:=h5 rfl;rw[bE bG]at hvv;omega
    have hz:=XA k1.wd k1.wl hp0.2;refine⟨1,cw 1,λ_=>⟨P2++dN ty2 p2,by rw[k2,hz];rfl⟩,λx r hx=> ?_⟩;obtain⟨W',k3,k4⟩:=xu h hx;have hx':x++(t2.text++r)=W'++46::(P++(dN ty p++([48]++(46::(P2++(dN ty2 p2++r)))))):=by rw[k4,k2,hz];simp
    rw[hx',CU h hp k3 (Or.inr ⟨rfl,hp0.1⟩) rfl,k4];congr 2;simp;omega
end
def Wj {t t2:Tok}(h:VT t)(h2:VT t2)(hs: ¬vp t t2)(hl:Lex (t.text++t2.text) [t,t2]):tv t t2:=by
 obtain⟨e,h3,h4,h5⟩:=Y9 (by rw[fK (qo h).1];exact(qo h).2) hl;cases h with
 |name k=>exact Tr k h2 h3|int k1 k2=>exact Wi k1 k2 h2 (λe=>hs ⟨rfl,Or.inl rfl,e⟩) h3 h4|fS k=>
  rename_i W P ty p;by_cases hp:ty=2\/p≠0
  ·exact Qf k hp h2 h3 h4
  ·have ht:ty=1:=k.ty.resolve_right (λe=>hp (Or.inl e));have hp0:p=0:=F1 λe=>hp (Or.inr e);subst ht hp0;refine Qe k h2 (λe=>hs ⟨rfl,Or.inr ⟨rfl,?_⟩,e⟩) h3 h4 h5;show (69:UInt8) ∉ e9 W P 1 0;unfold e9 dN;rw[bE co,bE bG,eU];intro hm;rcases j3.1 hm with hm|hm
   ·exact absurd (k.wd 69 hm) co
   ·rcases eE.1 hm with hm|hm
    ·exact absurd hm co
    ·exact absurd (k.pd 69 hm) co
 |logic k=>rename_i a;refine GJ (a:=a) (zq (by simpa using k)) ?_ rfl;unfold gz;rw[bK k]|chars k1 k2=>exact Qd k2 h2 h3|word k=>rename_i a;refine GJ (a:=a) (zu k) ?_ rfl;have:=BX a k;unfold gz;rw[bE (λe=>e.elim this.1 this.2)]|sign k=>exact Ts k h2 h3
instance (t t2:Tok):Decidable (vp t t2):=by unfold vp;infer_instance
def apB (t t2:Tok):Prop:=vp t t2\/ ¬((dJ false (t.text++t2.text)).e=0/\dZ false (t.text++t2.text)=[t,t2])
instance (t t2:Tok):Decidable (apB t t2):=by unfold apB;infer_instance
def mP:Tok->List Tok->List UInt8
 |_,[]=>[]|t,t2::l=>(if apB t t2 then [32]else [])++(t2.text++mP t2 l)
def Rz: ∀w∈d6,∀c,w=[c]->opC c none 0= .ok (⟨2,0,[c]⟩,1)/\opC c (some 32) 0= .ok (⟨2,0,[c]⟩,1):=by intro w hw c hc;subst hc;simp only[d6,eE,AZ,Bh,sf,j6,reduceCtorEq,and_false,false_or]at hw;rcases hw with rfl|rfl|rfl|rfl|rfl|rfl|rfl|rfl|rfl|rfl<;>exact⟨rfl,rfl⟩
def Pd {t:Tok}{x r:List UInt8}(h:VT t)(hx:src t x)(hr:r=[]\/ ∃q,r=32::q):rd (x++r)= .ok (t,x.length):=by
 have hh:hd r=0\/hd r=32:=by
  rcases hr with rfl|⟨q,rfl⟩
  ·exact Or.inl rfl
  ·exact Or.inr rfl
 have hpar:dX (hd r)=false:=by rcases hh with h|h<;>rw[h]<;>rfl
 have hdig:bR (hd r)=false:=by rcases hh with h|h<;>rw[h]<;>rfl
 have h39:hd r≠39:=by rcases hh with h|h<;>rw[h]<;>decide
 have h46:hd r≠46:=by rcases hh with h|h<;>rw[h]<;>decide
 have hexp:(cQ false r 0).2.2.2=false:=wM (by rcases hh with h|h<;>rw[h]<;>decide);cases h with
 |name k=>
  rename_i a;have:x=a:=by
   refine jY (t:=⟨0,0,a⟩) ?_ hx;have hl:=(kQ k).2.1;show bR (hd a)=false;cases hq:bR (hd a)with|false=>rfl|true=>rw[rX hq]at hl;cases hl
  rw[this];exact Pc k hpar
 |int k1 k2=>rw[Ph k1 hx];exact UX k1 k2 hdig (λe=>absurd e h46) hexp|fS k=>
  rename_i W P ty p;obtain⟨W',k3,k4⟩:=xu k hx;by_cases hp:ty=2\/p≠0
  ·have e:x++r=W'++46::(P++(dN ty p++([]++r))):=by rw[k4];simp
   rw[e,CU k hp k3 (Or.inl rfl) hdig,k4];congr 2;simp;omega
  ·have ht:ty=1:=k.ty.resolve_right (λe=>hp (Or.inl e));have hp0:p=0:=F1 λe=>hp (Or.inr e);subst ht hp0;have hT:dN 1 0=[]:=by unfold dN;rw[bE co,bE bG]
   rw[hT,eU]at k4;have e:x++r=W'++46::(P++r):=by rw[k4];simp
   rw[e,CT k k3 (Or.inl rfl) hdig hexp,k4];congr 2;simp;omega
 |logic k=>rename_i a;have:x=a:=jY (t:=⟨1,5,a⟩) (by rcases k with rfl|rfl<;>rfl) hx;rw[this,(AJ (zq (by simpa using k))).1];unfold gz;rw[bK k]|chars k1 k2=>rename_i u;have:x=eq u:=jY (t:=⟨1,6,eq u⟩) rfl hx;rw[this];exact KS k2 h39|word k=>rename_i a;have:x=a:=jY (t:=⟨2,0,a⟩) ((by decide: ∀w∈fM,bR (hd w)=false) a k) hx;have hn:=BX a k;rw[this,(AJ (zu k)).1];unfold gz;rw[bE (λe=>e.elim hn.1 hn.2)]|sign k=>
  rename_i a;have:x=a:=jY (t:=⟨2,0,a⟩) ((by decide: ∀w∈d6,bR (hd w)=false) a k) hx;rw[this];rcases Ev a k with⟨c,rfl,hc⟩|⟨c,d,rfl,hc,ho⟩
  ·rw[AY,vm hc];have:=Rz [c] k c rfl;rcases hr with rfl|⟨q,rfl⟩
   ·exact this.1
   ·exact this.2
  ·rw[ew,vm hc];exact ho
def TX {u:List UInt8}{l:List Tok}(h:Lex u l):Lex (32::u) l:=by
 have hb:cH (32::u)=cH u+1:=by rw[cH,bK rfl]
 cases h with|nil h=>exact .nil (by rw[hb,tj];exact h)|cons h1 h2 h3 h4=>exact .cons (by rw[hb,tj];exact h1) h2 h3 h4
def CG {u:List UInt8}{t:Tok}{e:Nat}{l:List Tok}(h0:u≠[])(h32:hd u≠32)(hr:rd u= .ok (t,e))(hl:Lex (u.drop e) l):Lex u (t::l):=by
 have hb:cH u=0:=by
  cases u with|nil=>rfl|cons c r=>unfold cH;rw[bE (show c≠32 from h32)]
 exact .cons (by rw[hb];rfl) h0 hr hl
def chain: ∀(l:List Tok) (t:Tok) (x:List UInt8),VT t->(∀u∈l,VT u)->src t x->Lex (x++mP t l) (t::l)
 |[],t,x,h,hl,hx=>by obtain⟨h0,h32⟩:=Vb h hx;have hr:=Pd (r:=[]) h hx (Or.inl rfl);rw[eU]at hr;show Lex (x++[]) [t];rw[eU];exact CG h0 h32 hr (.nil (by rw[List.drop_length];rfl))
 |t2::l,t,x,h,hl,hx=>by
  obtain⟨h0,h32⟩:=Vb h hx;have h2:VT t2:=hl t2 bG;have hn0:x++mP t (t2::l)≠[]:=by simp[h0]
  have hn32:hd (x++mP t (t2::l))≠32:=by rw[fK h0];exact h32
  have hrest: ∀y,src t2 y->Lex (y++mP t2 l) (t2::l):=λy hy=>chain l t2 y h2 (λu hu=>hl u (gj _ hu)) hy;by_cases ha:apB t t2
  ·have e:mP t (t2::l)=32::(t2.text++mP t2 l):=by rw[mP,bK ha];rfl
   rw[e]at hn0 hn32 |-;refine CG hn0 hn32 (Pd h hx (Or.inr ⟨_,rfl⟩)) ?_;rw[pH];exact TX (hrest _ (Or.inl rfl))
  ·have e:mP t (t2::l)=t2.text++mP t2 l:=by rw[mP,bE ha];rfl
   rw[e]at hn0 hn32 |-;have hsp: ¬vp t t2:=λe=>ha (Or.inl e);have hsc:=F1 λe=>ha (Or.inr e);have hlx:=(LO hsc.1).2.1;rw[hsc.2]at hlx;obtain⟨k,k1,k2,k3⟩:=Wj h h2 hsp hlx;refine CG hn0 hn32 (k3 x _ hx) ?_;rw[<-gM,pH];rcases jy k 1 with h5|h5
   ·have:k=0:=bu;subst this;exact hrest _ (Or.inl rfl)
   ·have:k=1:=bu;subst this;obtain⟨q,hq⟩:=k2 rfl;have e2:(t2.text++mP t2 l).drop 1=(46::q)++mP t2 l:=by rw[hq];rfl
    rw[e2];exact hrest _ (Or.inr ⟨hq,rfl⟩)
def abt (b:UInt8):Prop:=32<=b.toNat/\b.toNat<=126
instance (b:UInt8):Decidable (abt b):=by unfold abt;infer_instance
def aa1:CV:=CV.v (.pointer none)
def bO (a:CV)(bs:List UInt8):Ob:= .cells [LV.cv a,LV.osl (dg bs)]
section
variable {b:Mu}{a:CV}{bs:List UInt8}{r:Lam}
def Pj {o:Ob}:b7 (b++[o::r]) b.length 0=o:=by simp[b7]
def Ld {o o':Ob}:cq (b++[o::r]) b.length 0 o'=b++[o'::r]:=by simp[cq]
def ac1 {x:LV}{l:List CV}:gh E.P 128 (.cells [x,LV.osl l]) 1=some (LV.osl l,.cells [x,LV.cv (CV.sl l)]):=bx
def acU {x:LV}{l:List CV}:cD E.P 128 (.cells [x,LV.osl l]) 1=some (LV.cv (CV.sl l)):=bx
def sH {n:Nat}: ∀(l:List UInt8),dl n (dg l)=true
 |[]=>rfl|c::l=>by have e:dg (c::l)=CV.int .u8 (c.toNat:Int)::dg l:=rfl;rw[e];simp only[dl];have:below n (CV.int .u8 (c.toNat:Int))=true:=rfl;rw[this];exact sH l
def abY:(ev E).call 88 [LV.cv (CV.tref b.length 0 130 2)] (b++[bO a bs::r])=some (.ret (bv (bs.length:Int)) (b++[bO a bs::r])):=by refine b8 ?_;rw[aeq,Pj];unfold bO;rw[acU,bA];simp only[bU];rw[p8]
def abZ:(ev E).call 89 [LV.cv (CV.tref b.length 0 130 2)] (b++[bO a bs::r])=some (.ret (LV.str bs) (b++[.dead::r])):=by refine gy (g:=vg 130) bx ?_;unfold vg;simp only[dW,bA,cT];rw[Pj,Ld];unfold bO;simp only[wS,bA];rw[fQ];rfl
def Yg {α:Type}{k:Lam->Option α}:kE [(0,[3,1])] (bO a bs::r) k=k (bO a bs::r):=by unfold bO;simp only[kE,bQ,eu,jK,Dz,mL,wS,bA,Gi]
end
section
variable {μ:Mu}
def CA:Nat->List Tok->Nat×Int
 |_,[]=>(0,0)|n,t::l=>if uS t=0 then CA (n+1) l else(n,uS t)
def rG (l:List Tok):Nat×Int:=if 300<l.length then(0,8)else CA 0 l
def abq {l:List Tok}{i:Nat}(h:i<l.length):dr (cj l) (i:Int)=some (l[i]).cv:=by rw[mt];unfold cj;rw[fP,dA h];rfl
def s8 {l:List Tok}:(cj l).length=l.length:=by simp[cj]
end
end Go.Abs
