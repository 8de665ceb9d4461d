/-
  The statement TokensJoinsCardSaid, proved; part 3 of 8 of its proof.
  The operations of a region, in the program's order.
  What comes behind an operation does not matter to it.
  What an operation looks at, and what it turns.
  What an operation turns, by its kind.
  What an operation turns: all of them.
  Two operations of a region, one before the other or the other way round.
  Two operations of a region change places.
  A region whose order is open: what comes out in the program's order comes out in every order.
  Only some variables are known from here on: the loop's head.
  Code, loops, calls: what the interpreter does, the machine does.
  Deferred calls; all functions together.
  The interpreter without fuel.
  From the interpreter to a law: a call from outside, with arguments that are only read.
  Places to stop at: the interpreter goes on from a state, with what is left to be done written out.
  Functions that are taken by contract: what a contract must say.
  What the library's functions answer that are taken by contract: by Go's texts, as functions of lists of bytes.
-/
import Derived.Test.YtfcjjankfjaapaaGreatDoorJ1
import Derived.Recover
import Derived.ProofKit
import Derived.KernelRfl
import Derived.Below
import Derived.Lib.MapU
import Derived.Lib.AtoiAll
import Derived.Lib.ItoaNum
import Derived.Lib.IndexAny
import Derived.Lib.IndexMore
import Derived.Lib.Replace
import Derived.Lib.TrimByte
set_option linter.all false
set_option linter.unusedSectionVars false
set_option linter.unusedVariables false
set_option linter.unusedSimpArgs false
namespace Go.Abs
open Go
section
variable {P:Program}{W0:World}{ρ:Rho}{α:Type}{L:Nat}{H:Hints}{rg:Nat}{ops:Array Oper}{r:α}{Q:Exit→Act→World→Prop}
structure Keep where
 ds:List Deferred
 kp:Option (Nat×Value)
def Keep.at (K:Keep)(a:Act):Prop:=a.defers=K.ds∧ ∀t v,K.kp=some (t,v)→a.tmps.getD t undef=v
def Keep.slot (K:Keep):Option Nat:=match K.kp with|some q=>some q.1|none=>none
def Keep.lets (K:Keep)(d:Nat):Prop:= ∀t v,K.kp=some (t,v)→d≠t
theorem Keep.put {K:Keep}{a:Act}(h:K.at a){dst:Option Tmp}{v:Value}(hd: ∀d,dst=some d→K.lets d):K.at (a.put dst v):=by
 cases dst with
 |none=>exact h
 |some d=>
  refine⟨h.1,fun t u e=> ?_⟩
  have hne:=hd d rfl t u e
  rw[←h.2 t u e]
  simp only[Act.put,Array.getD_eq_getD_getElem?,Array.getElem?_setIfInBounds]
  rw[if_neg hne]
def Gw {α:Type}(L:Nat)(G:Gh)(w:World)(T:Nat→Prop)(n:Nat)(ds:Keep)(k:S→Mu→Option α)(r:α)(Q:Exit→Act→World→Prop):Prop:=
 ∀s μ a w' G',k s μ=some r→Rel G' L s μ a.tmps w'→Ext L T G w G' w' (az G' w' s μ a.tmps)→a.tmps.size=n→ds.at a→Q .normal a w'
def P5 {α:Type}(L:Nat)(G:Gh)(w:World)(T:Nat→Prop)(n:Nat)(ds:Keep)(p:CV→S→Mu→Option α)(r:α)(Q:Exit→Act→World→Prop):Prop:=
 ∀v s μ pv a w' G',p v s μ=some r→Rel G' L s μ a.tmps w'→VR G' w' v pv→Ext L T G w G' w' (az G' w' s μ a.tmps)→a.tmps.size=n→ds.at a→Q (.panic [{v:=pv,recovered:=false}]) a w'
theorem O4 (g:Fr)(t:Nat)(v:LV)(h:g t=v):upd g t v=g:=by
 funext u
 by_cases hu:u=t
 ·subst hu;rw[fa,h]
 ·rw[eu g v hu]
theorem S.set_self (s:S)(t:Nat)(v:LV)(h:s.fr t=v):s.set t v=s:=by
 unfold S.set
 rw[O4 s.fr t v h]
theorem jk (a:Act)(d:Option Tmp)(v:Value):(a.put d v).tmps.size=a.tmps.size∧(a.put d v).defers=a.defers:=by
 cases d<;>simp[Act.put]
theorem xI {G:Gh}{w:World}{s:S}{μ:Mu}{a:Act}(R:Rel G L s μ a.tmps w){j d:Nat}{b:Bool}(hd:mf ops j=some d)(hlt: ∀(i:Nat) (o:Oper),ops[i]? =some o→ ∀d,o.dst=some d→d<a.tmps.size)
  (hb:aM (s.fr d)=some b):yielded ops a.tmps j=some b:=by
 have hv:=R.fr d
 rw[ft hb]at hv
 simp only[LVR,VR]at hv
 unfold mf at hd
 cases ho:ops[j]? with
 |none=>rw[ho]at hd;simp at hd
 |some o=>
  rw[ho]at hd
  have hd:o.dst=some d:=hd
  have hsz:=hlt j o ho d hd
  have:a.tmps[d]? =some (.bool b):=by
   rw[←hv,Array.getD_eq_getD_getElem?,Array.getElem?_eq_getElem hsz]
   rfl
  simp[yielded,ho,hd,this]
theorem lX {v:LV}{b:Bool}(h:d9 v=some (some b)):aM v=some b:=by
 unfold d9 at h
 split at h
 ·simpa[aM]using h
 ·simp at h
 ·simp at h
theorem zI {v:LV}(h:d9 v=some none): ∃cs,v= .cv (.v (.tuple cs)):=by
 unfold d9 at h
 split at h
 ·simp at h
 ·exact⟨_,rfl⟩
 ·simp at h
theorem td {G:Gh}{w:World}{s:S}{μ:Mu}{a:Act}(R:Rel G L s μ a.tmps w){j d:Nat}(hd:mf ops j=some d)(hlt: ∀(i:Nat) (o:Oper),ops[i]? =some o→ ∀d,o.dst=some d→d<a.tmps.size)
  (hb:d9 (s.fr d)=some none):yielded ops a.tmps j=none:=by
 have hv:=R.fr d
 obtain⟨cs,e⟩:=zI hb
 rw[e]at hv
 simp only[LVR,VR]at hv
 unfold mf at hd
 cases ho:ops[j]? with
 |none=>rw[ho]at hd;simp at hd
 |some o=>
  rw[ho]at hd
  have hd:o.dst=some d:=hd
  have hsz:=hlt j o ho d hd
  have:a.tmps[d]? =some (.tuple cs):=by
   rw[←hv,Array.getD_eq_getD_getElem?,Array.getElem?_eq_getElem hsz]
   rfl
  simp[yielded,ho,hd,this]
theorem Rel.skip {G:Gh}{w:World}{s:S}{μ:Mu}{a:Act}(R:Rel G L s μ a.tmps w)(dst:Option Tmp)(hd: ∀d,dst=some d→d<a.tmps.size):
  Rel G L (s.put dst (.cv (.v undef))) μ (a.put dst undef).tmps w∧Ext L (az G w s μ a.tmps) G w G w (az G w (s.put dst (.cv (.v undef))) μ (a.put dst undef).tmps):=
 cx R (Ext.refl G w fun _ h=>h) (by simp[LVR,VR]) (fun b hb=>by simp[aE]at hb) hd
theorem gq (hrho:ew P W0 ρ){T:Nat→Prop}{G0:Gh}{w0:World}{n:Nat}{ds:Keep}{k:S→Mu→Option α}{p:CV→S→Mu→Option α}(hlt: ∀(i:Nat) (o:Oper),ops[i]? =some o→ ∀d,o.dst=some d→d<n∧ds.lets d)
  (hkn:Kn W0 w0 T) (hk:Gw L G0 w0 T n ds k r Q) (hp:P5 L G0 w0 T n ds p r Q):
  ∀(l:List Nat) {G:Gh} {w:World} {s:S} {μ:Mu} {a:Act},eM P ρ H rg ops l s μ k p=some r→Rel G L s μ a.tmps w→Ext L T G0 w0 G w (az G w s μ a.tmps)→a.tmps.size=n→ds.at a→wpOps P ops Q l a w
 |[],G,w,s,μ,a,h,R,E,hn,hds=>by
  simp only[eM]at h
  simp only[wpOps]
  exact hk s μ a w G h R E hn hds
 |i::rest,G,w,s,μ,a,h,R,E,hn,hds=>by
  simp only[eM]at h
  simp only[wpOps]
  cases ho:ops[i]? with
  |none=>rw[ho]at h;simp at h
  |some o=>
   rw[ho]at h
   simp only at h ⊢
   have hlt': ∀d,o.dst=some d→d<a.tmps.size:=fun d hd=>by rw[hn];exact(hlt i o ho d hd).1
   have hlt2: ∀(i:Nat) (o:Oper),ops[i]? =some o→ ∀d,o.dst=some d→d<a.tmps.size:=fun i o ho d hd=>by rw[hn];exact(hlt i o ho d hd).1
   have hkok:KOK L G w s μ a o.dst (fun v s μ=>eM P ρ H rg ops rest (s.put o.dst v) μ k p) r (wpOps P ops Q rest):=by
    intro v s' μ' cv w' G' h' R' E'
    exact gq hrho hlt hkn hk hp rest h' R' (E.trans E') (by rw[(jk a o.dst cv).1];exact hn) (Keep.put hds fun d hd=>(hlt i o ho d hd).2)
   have hpok:POK L G w s μ a p r Q:=fun v s' μ' pv w' G' h' R' hv E'=>hp v s' μ' pv a w' G' h' R' hv (E.trans E') hn hds
   cases hg:o.guard with
   |none=>
    rw[hg]at h
    have hw:Region.wanted o (yielded ops a.tmps)=true:=by simp[Region.wanted,hg]
    rw[if_pos hw]
    exact .inl (nO R hlt' hkok hpok hrho (hkn.ext E) h)
   |some g=>
    rw[hg]at h
    simp only at h
    obtain⟨d,hd,h⟩:=ab.1 h
    obtain⟨q,hq,h⟩:=ab.1 h
    cases q with
    |none=>
     have hy:=td R hd hlt2 hq
     obtain⟨j,want⟩:=g
     simp only at hd hy h
     have hw: ¬Region.wanted o (yielded ops a.tmps)=true:=by simp[Region.wanted,hg,hy]
     rw[if_neg hw]
     obtain⟨R2,E2⟩:=R.skip o.dst hlt'
     exact gq hrho hlt hkn hk hp rest h R2 (E.trans E2) (by rw[(jk a o.dst undef).1];exact hn) (Keep.put hds fun d hd=>(hlt i o ho d hd).2)
    |some b=>
    have hb:=lX hq
    have hy:=xI R hd hlt2 hb
    have hbe:=ft hb
    obtain⟨j,want⟩:=g
    simp only at hd hy h
    cases b with
    |true=>
     rw[S.set_self s d _ hbe]at h
     simp only[cond_true]at h
     cases want with
     |true=>
      have hw:Region.wanted o (yielded ops a.tmps)=true:=by simp[Region.wanted,hg,hy]
      rw[if_pos hw]
      exact .inl (nO R hlt' hkok hpok hrho (hkn.ext E) h)
     |false=>
      have hw: ¬Region.wanted o (yielded ops a.tmps)=true:=by simp[Region.wanted,hg,hy]
      rw[if_neg hw]
      obtain⟨R2,E2⟩:=R.skip o.dst hlt'
      exact gq hrho hlt hkn hk hp rest h R2 (E.trans E2) (by rw[(jk a o.dst undef).1];exact hn) (Keep.put hds fun d hd=>(hlt i o ho d hd).2)
    |false=>
     rw[S.set_self s d _ hbe]at h
     simp only[cond_false]at h
     cases want with
     |false=>
      have hw:Region.wanted o (yielded ops a.tmps)=true:=by simp[Region.wanted,hg,hy]
      rw[if_pos hw]
      exact .inl (nO R hlt' hkok hpok hrho (hkn.ext E) h)
     |true=>
      have hw: ¬Region.wanted o (yielded ops a.tmps)=true:=by simp[Region.wanted,hg,hy]
      rw[if_neg hw]
      obtain⟨R2,E2⟩:=R.skip o.dst hlt'
      exact gq hrho hlt hkn hk hp rest h R2 (E.trans E2) (by rw[(jk a o.dst undef).1];exact hn) (Keep.put hds fun d hd=>(hlt i o ho d hd).2)
theorem Hd {n:Nat}{ds:Keep}{d:Nat}(h:Hc n ds.slot d=true):d<n∧ds.lets d:=by
 unfold Hc at h
 split at h
 ·rename_i hb
  refine⟨by simpa[Nat.blt_eq]using hb,fun t v e hdt=> ?_⟩
  simp only[Keep.slot,e]at h
  subst hdt
  simp[Nat.beq_refl]at h
 ·cases h
theorem kc {n:Nat}{ds:Keep}: ∀{l:List Oper},lN n ds.slot l=true→ ∀{i:Nat} {o:Oper},l[i]? =some o→ ∀d,o.dst=some d→d<n∧ds.lets d
 |[],_,i,o,h,d,_=>by simp at h
 |x::r,hl,i,o,h,d,hd=>by
  have key:lN n ds.slot r=true∧ ∀d,x.dst=some d→d<n∧ds.lets d:=by
   simp only[lN]at hl
   split at hl
   ·rename_i e;exact⟨hl,fun d hd=>by rw[e]at hd;cases hd⟩
   ·rename_i d' e
    split at hl
    ·rename_i hb;exact⟨hl,fun d hd=>by rw[e]at hd;injection hd with hd;subst hd;exact Hd hb⟩
    ·simp at hl
  cases i with
  |zero=>simp only[List.getElem?_cons_zero,Option.some.injEq]at h;subst h;exact key.2 d hd
  |succ i=>exact kc key.1 (by simpa using h) d hd
end
end Go.Abs
set_option linter.unusedVariables false
set_option linter.unusedSimpArgs false
namespace Go.Abs
open Go
section
variable {α β γ:Type}
theorem aG {x:Option α}{f:α→Option β}{k:β→Option γ}:opt (opt x f) k=opt x fun a=>opt (f a) k:=by
 cases x<;>rfl
theorem bF {b:Bool}{x:Option β}{k:β→Option γ}:opt (aB b x) k=aB b (opt x k):=by
 cases b<;>rfl
theorem eD {k:β→Option γ}:opt (none:Option β) k=none:=rfl
theorem bu {a:β}{k:β→Option γ}:opt (some a) k=k a:=rfl
theorem zf {d:TypeDesc}{x:LV}{f:CV→Option β}{k:β→Option γ}:opt (jb d x f) k=jb d x fun c=>opt (f c) k:=by
 unfold jb
 cases d<;>exact aG
theorem qu: ∀{ds:List TypeDesc} {cs:List CV} {f:List CV→Option β} {k:β→Option γ},opt (fl ds cs f) k=fl ds cs fun c=>opt (f c) k
 |[],cs,f,k=>by unfold fl;exact aG
 |d::ds,cs,f,k=>by
  unfold fl
  simp only[aG,zf,qu]
variable {P:Program}
theorem ka {t:TypeId}{x:LV}{f:CV→Option β}{k:β→Option γ}:opt (io P t x f) k=io P t x fun c=>opt (f c) k:=by
 unfold io
 cases eo P t
 ·cases P.underlying t
  ·rfl
  ·exact zf
 ·simp only[aG,qu]
theorem w9 {own:Bool}{t:TypeId}{x:LV}{f:LV→Option β}{k:β→Option γ}:opt (i7 P own t x f) k=i7 P own t x fun c=>opt (f c) k:=by
 unfold i7
 cases own
 ·exact ka
 ·exact aG
theorem sv: ∀{ts:List TypeId} {xs:List LV} {f:List LV→Option β} {k:β→Option γ},opt (ef P ts xs f) k=ef P ts xs fun c=>opt (f c) k
 |[],xs,f,k=>by unfold ef;exact aG
 |t::ts,xs,f,k=>by
  unfold ef
  simp only[aG,w9,sv]
theorem iC {own:Bool}{t:TypeId}{x:LV}{f:LV→Option β}{k:β→Option γ}:opt (dy P own t x f) k=dy P own t x fun c=>opt (f c) k:=by
 unfold dy
 split
 ·simp only[aG,sv]
 ·exact w9
theorem ub {b:Bool}{t:TypeId}{x:LV}{f:LV→Option β}{k:β→Option γ}:opt (jJ P b t x f) k=jJ P b t x fun c=>opt (f c) k:=by
 cases b with
 |true=>exact iC
 |false=>rfl
theorem LT {h:OpHint}{t:TypeId}{a:LV}{s:S}{μ:Mu}{f:LV→S→Mu→Option β}{k:β→Option γ}:opt (gn P h t a s μ f) k=gn P h t a s μ fun v s μ=>opt (f v s μ) k:=by
 unfold gn
 split
 ·split
  ·rfl
  ·split
   ·simp only[aG,ub]
   ·exact aG
 ·split
  ·simp only[aG]
  ·simp only[aG]
   congr;funext q
   split<;>simp only[aG,iC]
 ·rfl
theorem HH {h:OpHint}{t:TypeId}{a v:LV}{s:S}{μ:Mu}{f:LV→S→Mu→Option β}{k:β→Option γ}:opt (gB P h t a v s μ f) k=gB P h t a v s μ fun v s μ=>opt (f v s μ) k:=by
 unfold gB
 split
 ·split
  ·rfl
  ·simp only[lg]
   exact aG
 ·split
  ·rfl
  ·simp only[aG,bF]
 ·rfl
theorem oX {h:OpHint}{t:TypeId}{a:LV}{i:Nat}{f:LV→Option β}{k:β→Option γ}:opt (eH P h t a i f) k=eH P h t a i fun c=>opt (f c) k:=by
 unfold eH
 simp only[aG]
 congr;funext q
 split
 ·rfl
 ·split
  ·simp only[aG,qu,bF]
  ·simp only[aG]
 ·rfl
theorem oY {h:OpHint}{t:TypeId}{a:LV}{i:Int}{f:LV→Option β}{k:β→Option γ}:opt (eI P h t a i f) k=eI P h t a i fun c=>opt (f c) k:=by
 unfold eI f7
 split
 ·simp only[aG]
  congr;funext q
  split
  ·exact bF
  ·simp only[aG,ka,bF]
  ·split<;>simp only[aG,ka,bF]
  ·rfl
 ·simp only[aG]
  congr;funext q
  split
  ·exact bF
  ·split<;>simp only[aG,bF]
  ·rfl
 ·rfl
theorem w7 {t:TypeId}{a:LV}{i:Int}{f:LV→Option β}{k:β→Option γ}:opt (jX P t a i f) k=jX P t a i fun c=>opt (f c) k:=by
 unfold jX f7
 split
 ·simp only[aG]
 ·split
  ·simp only[aG,bF,ka]
  ·rfl
 ·rfl
theorem w5 {ev:Operand→LV}{x:Option Operand}{d:Int}{f:Int→Option β}{k:β→Option γ}:opt (cV ev x d f) k=cV ev x d fun c=>opt (f c) k:=by
 unfold cV
 cases x
 ·rfl
 ·exact aG
theorem w8 {t:TypeId}{x:LV}{lo hi:Option Operand}{ev:Operand→LV}{f:LV→Option β}{k:β→Option γ}:opt (gz P t x lo hi ev f) k=gz P t x lo hi ev fun c=>opt (f c) k:=by
 unfold gz
 split
 ·simp only[aG,w5]
 ·simp only[aG]
  congr;funext q
  split<;>simp only[aG,w5,bF,eD]
 ·rfl
theorem t8 {h:OpHint}{t:TypeId}{xt:Option TypeId}{x y:LV}{s:S}{μ:Mu}{f:LV→S→Mu→Option β}{k:β→Option γ}:opt (fg P h t xt x y s μ f) k=fg P h t xt x y s μ fun v s μ=>opt (f v s μ) k:=by
 unfold fg
 split
 ·cases xt
  ·simp only[aG,bF,eD]
  ·simp only[aG,bF]
   congr;funext q;congr;funext q;congr
   cases h.own
   ·simp only[aG]
    congr;funext q
    split<;>simp only[aG,bF,eD]
   ·simp only[aG]
    congr;funext q
    split<;>simp only[aG,bF,eD]
 ·rfl
theorem su {h:OpHint}{src dst:TypeId}{x:LV}{s:S}{μ:Mu}{f:LV→S→Mu→Option β}{k:β→Option γ}:opt (cZ P h src dst x s μ f) k=cZ P h src dst x s μ fun v s μ=>opt (f v s μ) k:=by
 unfold cZ
 split
 ·split<;>simp only[aG,eD]
 ·split
  ·simp only[aG]
  ·split
   ·split
    ·split<;>simp only[aG,bF,eD]
    ·simp only[aG]
   ·rfl
  ·rfl
 ·split
  ·split
   ·simp only[aG,bF]
    congr;funext q
    congr
    split<;>rfl
   ·rfl
  ·rfl
 ·rfl
theorem Oz {x:Option α}{f:α→Option β}{g:Option β}{k:β→Option γ}:opt (optE x f g) k=optE x (fun a=>opt (f a) k) (opt g k):=by cases x<;>rfl
theorem ua {t:TypeId}{m x y:LV}{s:S}{μ:Mu}{f:LV→S→Mu→Option β}{k:β→Option γ}:opt (gE P t m x y s μ f) k=gE P t m x y s μ fun v s μ=>opt (f v s μ) k:=by
 unfold gE
 simp only[aG]
 congr;funext q;congr;funext q2;congr;funext q3
 split
 ·split<;>first|exact bF|rfl
 ·split<;>first|exact bF|rfl
 ·rfl
theorem Dj {t:TypeId}{m x:LV}{ok:Bool}{s:S}{μ:Mu}{f:LV→Option β}{k:β→Option γ}:opt (iB P t m x ok s μ f) k=iB P t m x ok s μ fun v=>opt (f v) k:=by
 unfold iB f7
 cases ok<;>simp only[aG,bF,Oz,ka]
theorem Di {x:LV}{t:TypeId}{ok:Bool}{f:LV→Option β}{k:β→Option γ}:opt (iv P x t ok f) k=iv P x t ok fun v=>opt (f v) k:=by
 unfold iv
 split
 ·rfl
 ·split
  ·rfl
  ·simp only[aG]
   congr;funext z
   split
   ·split<;>rfl
   ·rfl
   ·rfl
 ·rfl
theorem BM {op:BinOp}{t:TypeId}{x y:Operand}{a b:LV}{f:CV→Option β}{k:β→Option γ}:opt (nZ P op t x y a b f) k=nZ P op t x y a b fun c=>opt (f c) k:=by
 unfold nZ
 split
 ·simp only[aG]
 ·simp only[aG,bF]
variable {ρ:Rho}
theorem ze {x:Option Out}{f:LV→Mu→Option β}{p:CV→Mu→Option β}{k:β→Option γ}:opt (callK x f p) k=callK x (fun v μ=>opt (f v μ) k) fun v μ=>opt (p v μ) k:=by
 unfold callK
 rw[aG]
 congr;funext q
 cases q<;>rfl
theorem w6 {h:OpHint}{t:TypeId}{g:FuncId}{args:List LV}{s:S}{μ:Mu}{f:LV→S→Mu→Option β}{p:CV→S→Mu→Option β}{k:β→Option γ}:
  opt (fQ P ρ h t g args s μ f p) k=fQ P ρ h t g args s μ (fun v s μ=>opt (f v s μ) k) fun v s μ=>opt (p v s μ) k:=by
 unfold fQ
 split
 ·simp only[bF,ze,iC]
 ·simp only[aG,ze,iC]
theorem NU {h:OpHint}{o:Oper}{s:S}{μ:Mu}{f:LV→S→Mu→Option β}{p:CV→S→Mu→Option β}{k:β→Option γ}:
  opt (cK P ρ h o s μ f p) k=cK P ρ h o s μ (fun v s μ=>opt (f v s μ) k) fun v s μ=>opt (p v s μ) k:=by
 unfold cK
 dsimp only
 split
 ·rfl
 ·rfl
 ·exact aG
 ·exact aG
 ·exact aG
 ·simp only[aG]
 ·split
  ·simp only[aG,bF]
   congr;funext q;congr;funext q;congr;funext q;congr;funext q
   congr
   split<;>rfl
  ·rfl
 ·exact LT
 ·exact HH
 ·simp only[aG,bF]
 ·exact BM
 ·exact aG
 ·exact su
 ·split<;>simp only[aG,eD]
 ·split
  ·split<;>rfl
  ·rfl
 ·split
  ·exact w8
  ·rfl
 ·exact oX
 ·exact aG
 ·simp only[aG,oY]
 ·simp only[aG,w7]
 ·simp only[aG]
 ·split<;>rfl
 ·exact Di
 ·split<;>rfl
 ·exact ua
 ·exact ua
 ·exact Dj
 ·split
  ·split
   ·split<;>simp only[aG,eD]
   ·split
    ·exact t8
    ·rfl
   ·split<;>simp only[aG,eD]
   ·split<;>simp only[aG,eD]
   ·rfl
  ·rw[bF]
   congr
   split
   ·exact w6
   ·exact w6
   ·rfl
  ·rfl
 ·rfl
def bg (P:Program)(ρ:Rho)(h:OpHint)(o:Oper)(s:S)(μ:Mu):Option (LV×S×Mu):=cK P ρ h o s μ (fun v s μ=>some (v,s,μ)) fun _ _ _=>none
theorem Mh {h:OpHint}{o:Oper}{s:S}{μ:Mu}{f:LV→S→Mu→Option β}:cK P ρ h o s μ f (fun _ _ _=>none)=opt (bg P ρ h o s μ) fun q=>f q.1 q.2.1 q.2.2:=by
 unfold bg
 rw[NU]
 rfl
end
end Go.Abs
set_option linter.unusedVariables false
set_option linter.unusedSimpArgs false
namespace Go.Abs
open Go
def Ag (h:OpHint)(o:Oper)(s t:S):Prop:= ∀x,x∈o.op.operands.toList→evA h t.fr x=evA h s.fr x
section
variable {P:Program}{ρ:Rho}{h:OpHint}{o:Oper}{s t:S}{μ ν:Mu}
theorem jf {ev ev':Operand→LV}: ∀{l:List (Nat×Operand)},(∀q∈l,ev' q.2=ev q.2)→dv ev' l=dv ev l
 |[],_=>rfl
 |q::r,hq=>by
  simp only[dv]
  rw[hq q (by simp),jf fun x hx=>hq x (List.mem_cons_of_mem _ hx)]
def cl (P:Program)(ρ:Rho)(h:OpHint)(o:Oper)(s t:S)(μ ν:Mu):Prop:=bg P ρ h o t ν=opt (bg P ρ h o s μ) fun q=>some (q.1,ad h.take t,ν)
theorem Gi {x:Operand}(ho:o.op= .move x∨o.op= .assign x)(ha:Ag h o s t):cl P ρ h o s t μ ν:=by
 have e:evA h t.fr x=evA h s.fr x:=ha x (by rcases ho with ho|ho<;>simp[ho,Op.operands])
 rcases ho with ho|ho<;>simp only[cl,bg,cK,ho,e,bu]
theorem Rl {c x y:Operand}(ho:o.op= .pick c x y)(ha:Ag h o s t):cl P ρ h o s t μ ν:=by
 have e1:=ha c (by simp[ho,Op.operands])
 have e2:=ha x (by simp[ho,Op.operands])
 have e3:=ha y (by simp[ho,Op.operands])
 simp only[cl,bg,cK,ho,e1,e2,e3,aG,bu]
theorem OE {ty:TypeId}{parts:Array (Nat×Operand)}(ho:o.op= .build ty parts)(ha:Ag h o s t):cl P ρ h o s t μ ν:=by
 have e:dv (evA h t.fr) parts.toList=dv (evA h s.fr) parts.toList:=jf fun q hq=>ha q.2 (by simp only[ho,Op.operands];simp;exact⟨q.1,by simpa using hq⟩)
 simp only[cl,bg,cK,ho,e,aG,bu]
theorem Eg {x:Operand}(ho:o.op= .nilCheck x)(ha:Ag h o s t):cl P ρ h o s t μ ν:=by
 have e:=ha x (by simp[ho,Op.operands])
 simp only[cl,bg,cK,ho,e,aG,bF,bu]
theorem OD {op:BinOp}{ty ty':TypeId}{x y:Operand}(ho:o.op= .binOp op ty x y ty')(ha:Ag h o s t):cl P ρ h o s t μ ν:=by
 have e1:=ha x (by simp[ho,Op.operands])
 have e2:=ha y (by simp[ho,Op.operands])
 simp only[cl,bg,cK,ho,e1,e2,BM,bu]
theorem Rm {op:UnOp}{ty:TypeId}{x:Operand}(ho:o.op= .unOp op ty x)(ha:Ag h o s t):cl P ρ h o s t μ ν:=by
 have e:=ha x (by simp[ho,Op.operands])
 simp only[cl,bg,cK,ho,e,aG,bu]
theorem vT {ty:TypeId}{x:Operand}(ho:o.op= .makeInterface ty x)(ha:Ag h o s t):cl P ρ h o s t μ ν:=by
 have e:=ha x (by simp[ho,Op.operands])
 simp only[cl,bg,cK,ho,e]
 split<;>simp only[aG,bu,eD]
theorem Ch {ty:TypeId}{x:Operand}{f:Nat}(ho:o.op= .fieldAddr ty x f)(ha:Ag h o s t):cl P ρ h o s t μ ν:=by
 have e:=ha x (by simp[ho,Op.operands])
 simp only[cl,bg,cK,ho,e,oX,bu]
theorem OF {ty:TypeId}{x:Operand}{f:Nat}(ho:o.op= .field ty x f)(ha:Ag h o s t):cl P ρ h o s t μ ν:=by
 have e:=ha x (by simp[ho,Op.operands])
 simp only[cl,bg,cK,ho,e,aG,bu]
theorem Ci {ty:TypeId}{x y:Operand}(ho:o.op= .indexAddr ty x y)(ha:Ag h o s t):cl P ρ h o s t μ ν:=by
 have e1:=ha x (by simp[ho,Op.operands])
 have e2:=ha y (by simp[ho,Op.operands])
 simp only[cl,bg,cK,ho,e1,e2,aG,oY,bu]
theorem OG {ty:TypeId}{x y:Operand}(ho:o.op= .index ty x y)(ha:Ag h o s t):cl P ρ h o s t μ ν:=by
 have e1:=ha x (by simp[ho,Op.operands])
 have e2:=ha y (by simp[ho,Op.operands])
 simp only[cl,bg,cK,ho,e1,e2,aG,w7,bu]
theorem Jc {x:Operand}{i:Nat}(ho:o.op= .extract x i)(ha:Ag h o s t):cl P ρ h o s t μ ν:=by
 have e:=ha x (by simp[ho,Op.operands])
 simp only[cl,bg,cK,ho,e,aG,bu]
theorem rU {β:Type}{ev ev':Operand→LV}{x:Option Operand}{d:Int}{f:Int→Option β}(h: ∀y,x=some y→ev' y=ev y):cV ev' x d f=cV ev x d f:=by
 cases x with
 |none=>rfl
 |some y=>simp only[cV,h y rfl]
theorem CA {β:Type}{ty:TypeId}{x:LV}{lo hi:Option Operand}{ev ev':Operand→LV}{f:LV→Option β}(h1: ∀y,lo=some y→ev' y=ev y)(h2: ∀y,hi=some y→ev' y=ev y):gz P ty x lo hi ev' f=gz P ty x lo hi ev f:=by
 unfold gz
 simp only[rU h1,rU h2]
theorem OH {ty:TypeId}{x:Operand}{lo hi mx:Option Operand}(ho:o.op= .slice ty x lo hi mx)(ha:Ag h o s t):cl P ρ h o s t μ ν:=by
 have e:=ha x (by simp[ho,Op.operands])
 have e1: ∀y,lo=some y→evA h t.fr y=evA h s.fr y:=fun y hy=>ha y (by simp[ho,Op.operands,hy])
 have e2: ∀y,hi=some y→evA h t.fr y=evA h s.fr y:=fun y hy=>ha y (by simp[ho,Op.operands,hy])
 simp only[cl,bg,cK,ho,e]
 cases mx with
 |none=>simp only[CA e1 e2,w8,bu]
 |some m=>rfl
theorem zM {ty:TypeId}{len:Nat}{parts:Array (Nat×Operand)}(ho:o.op= .buildSlice ty len parts)(hr:h.arr=false)(ha:Ag h o s t):cl P ρ h o s t μ ν:=by
 have e:dv (evA h t.fr) parts.toList=dv (evA h s.fr) parts.toList:=jf fun q hq=>ha q.2 (by simp only[ho,Op.operands];simp;exact⟨q.1,by simpa using hq⟩)
 simp only[cl,bg,cK,ho,e,hr]
 split<;>simp only[aG,bF,bu,eD]
theorem Ef {fn:Fn}{first captured:Array Operand}(ho:o.op= .makeFunc fn first captured)(ha:Ag h o s t):cl P ρ h o s t μ ν:=by
 have e:(captured.toList.map fun x=>strip1 (evA h t.fr x))=captured.toList.map fun x=>strip1 (evA h s.fr x):=List.map_congr_left fun x hx=>by rw[ha x (by simp[ho,Op.operands];right;simpa using hx)]
 simp only[cl,bg,cK,ho,e]
 split
 ·split<;>rfl
 ·rfl
theorem zF {β:Type}{ty:TypeId}{xt:Option TypeId}{x y:LV}{f:LV→S→Mu→Option β}:fg P h ty xt x y t ν f=fg P h ty xt x y s μ fun v _ _=>f v t ν:=by
 unfold fg
 rfl
theorem Jb {c:Call}{b:Builtin}(ho:o.op= .call c)(hc:c.callee= .builtin b)(ha:Ag h o s t):cl P ρ h o s t μ ν:=by
 have hm: ∀x,x∈c.args.toList→evA h t.fr x=evA h s.fr x:=fun x hx=>ha x (by simp[ho,Op.operands,Call.operands,hc];simpa using hx)
 simp only[cl,bg,cK,ho,hc]
 split
 ·split
  ·rename_i x ty hx _
   rw[hm x (by rw[hx];simp)]
   simp only[aG,bu]
  ·rfl
 ·split
  ·rename_i x y ty xt hx _
   rw[hm x (by rw[hx];simp),hm y (by rw[hx];simp),t8]
   simp only[bu]
   exact zF
  ·rfl
 ·split
  ·rename_i x y hx
   rw[hm x (by rw[hx];simp),hm y (by rw[hx];simp)]
   simp only[aG,bu]
  ·rfl
 ·split
  ·rename_i x y hx
   rw[hm x (by rw[hx];simp),hm y (by rw[hx];simp)]
   simp only[aG,bu]
  ·rfl
 ·rfl
end
end Go.Abs
set_option linter.unusedVariables false
set_option linter.unusedSimpArgs false
namespace Go.Abs
open Go
section
variable {P:Program}{ρ:Rho}{h:OpHint}{o:Oper}{s t s':S}{μ ν μ':Mu}{v:LV}
def dM (k:Kind)(s t:S)(μ ν:Mu):Prop:=
 match k with
 | .plain=>True
 | .rd=> ∀i,aK (aH s.lam i)→aH t.lam i=aH s.lam i
 | .wr=>t.lam=s.lam
 | .ap=>t.lam.length=s.lam.length
 | .look=>ν=μ∧t.pushed=s.pushed
 | .ou=>ν=μ∧t.pushed=s.pushed
 | .all=>t.lam=s.lam∧t.pushed=s.pushed∧ν=μ
def Eff (P:Program)(ρ:Rho)(h:OpHint)(o:Oper)(k:Kind)(s t:S)(μ ν:Mu)(v:LV)(s':S)(μ':Mu):Prop:=
 match k with
 | .plain=>s'=ad h.take s∧μ'=μ∧bg P ρ h o t ν=some (v,ad h.take t,ν)
 | .rd=>s'=ad h.take s∧μ'=μ∧bg P ρ h o t ν=some (v,ad h.take t,ν)
 | .wr=> ∃lam',s'={ad h.take s with lam:=lam'}∧μ'=μ∧bg P ρ h o t ν=some (v,{ad h.take t with lam:=lam'},ν)
 | .ap=> ∃ob,s'={ad h.take s with lam:=s.lam++[ob]}∧μ'=μ∧bg P ρ h o t ν=some (v,{ad h.take t with lam:=t.lam++[ob]},ν)
 | .look=>s'=ad h.take s∧μ'=μ∧bg P ρ h o t ν=some (v,ad h.take t,ν)
 | .ou=>s'=ad h.take s∧bg P ρ h o t ν=some (v,ad h.take t,μ')
 | .all=>s'.fr=(ad h.take s).fr∧bg P ρ h o t ν=some (v,{s' with fr:=(ad h.take t).fr},μ')
theorem Ag.self:Ag h o s s:=fun _ _=>rfl
theorem Lg (hp: ∀t ν,Ag h o s t→cl P ρ h o s t μ ν)(ha:Ag h o s t)(hst:bg P ρ h o s μ=some (v,s',μ')):Eff P ρ h o .plain s t μ ν v s' μ':=by
 have h1:=hp s μ Ag.self
 have h2:=hp t ν ha
 unfold cl at h1 h2
 rw[hst,bu]at h1 h2
 simp only[Option.some.injEq,Prod.mk.injEq,true_and]at h1
 exact⟨h1.1,h1.2,h2⟩
theorem D9 {ty:TypeId}{ob:Ob}{off:Nat}{w:LV}(h:bB P ty ob off=some w):aK ob:=by
 unfold bB at h
 obtain⟨_,_,h⟩:=ab.1 h
 cases ob<;>first|trivial|simp[oZ]at h
theorem NC {ty:TypeId}{x:Operand}(ho:o.op= .load ty x)(ha:Ag h o s t)(hc:dM (aX h o) s t μ ν)(hst:bg P ρ h o s μ=some (v,s',μ')):Eff P ρ h o (aX h o) s t μ ν v s' μ':=by
 have e:=ha x (by simp[ho,Op.operands])
 have l1:=aU h.take s
 have l2:=aU h.take t
 have hs1:bg P ρ h o s μ=gn P h ty (evA h s.fr x) (ad h.take s) μ fun v s μ=>some (v,s,μ):=by simp only[bg,cK,ho]
 have ht1:bg P ρ h o t ν=gn P h ty (evA h s.fr x) (ad h.take t) ν fun v s μ=>some (v,s,μ):=by simp only[bg,cK,ho,e]
 rw[hs1]at hst
 unfold Eff
 rw[ht1]
 clear hs1 ht1 e ha
 simp only[aX,ho]at hc ⊢
 unfold gn at hst ⊢
 generalize evA h s.fr x=q at hst ⊢
 cases hou:h.outer with
 |false=>
  simp only[hou]at hc hst ⊢
  cases hce:h.cell with
  |false=>
   simp only[hce,dM]at hc hst ⊢
   cases q with
   |loc i off=>
    dsimp only at hst ⊢
    obtain⟨w,h1,h2⟩:=ab.1 hst
    obtain⟨y,h3,_⟩:=qY h2
    simp only[Option.some.injEq,Prod.mk.injEq]at h3
    obtain⟨rfl,rfl,rfl⟩:=h3
    refine⟨rfl,rfl,ab.2 ⟨w,?_,?_⟩⟩
    ·rw[l1.1]at h1
     rw[l2.1,hc i (D9 h1)]
     exact h1
    ·have:(jJ P h.arr ty w fun v=>some (v,ad h.take t,ν))=opt (jJ P h.arr ty w fun v=>some (v,ad h.take s,μ)) fun q=>some (q.1,ad h.take t,ν):=by
      rw[ub]
      rfl
     rw[this,h2]
     rfl
   |cv c=>
    dsimp only at hst ⊢
    obtain⟨cs,h1,h2⟩:=ab.1 hst
    obtain⟨c',h3,h4⟩:=ab.1 h2
    simp only[Option.some.injEq,Prod.mk.injEq]at h4
    obtain⟨rfl,rfl,rfl⟩:=h4
    exact⟨rfl,rfl,ab.2 ⟨cs,h1,ab.2 ⟨c',h3,rfl⟩⟩⟩
   |osl _=>cases hst
   |lsl _ _ _=>cases hst
   |lclo _ _=>cases hst
   |mloc _=>cases hst
   |tloc _ _ _=>cases hst
   |ost _=>cases hst
   |stl _=>cases hst
   |ltup _=>cases hst
  |true=>
   simp only[hce,dM]at hc hst ⊢
   cases q with
   |loc i off=>
    dsimp only at hst ⊢
    obtain⟨w,h1,h2⟩:=ab.1 hst
    simp only[Option.some.injEq,Prod.mk.injEq]at h2
    obtain⟨rfl,rfl,rfl⟩:=h2
    refine⟨_,rfl,rfl,ab.2 ⟨w,?_,?_⟩⟩
    ·rw[l2.1,hc,←l1.1];exact h1
    ·rw[l2.1,hc,←l1.1]
   |cv c=>
    dsimp only at hst ⊢
    obtain⟨cs,h1,h2⟩:=ab.1 hst
    obtain⟨c',h3,h4⟩:=ab.1 h2
    simp only[Option.some.injEq,Prod.mk.injEq]at h4
    obtain⟨rfl,rfl,rfl⟩:=h4
    refine⟨s.lam,by rw[←l1.1],rfl,ab.2 ⟨cs,h1,ab.2 ⟨c',h3,?_⟩⟩⟩
    rw[←hc,←l2.1]
   |osl _=>cases hst
   |lsl _ _ _=>cases hst
   |lclo _ _=>cases hst
   |mloc _=>cases hst
   |tloc _ _ _=>cases hst
   |ost _=>cases hst
   |stl _=>cases hst
   |ltup _=>cases hst
 |true=>
  have hc':ν=μ∧t.pushed=s.pushed:=by
   cases hce:h.cell<;>simpa only[hou,hce,dM]using hc
  clear hc
  obtain⟨rfl,hpu⟩:=hc'
  simp only[hou]at hst ⊢
  cases q with
  |cv c=>
   dsimp only at hst ⊢
   obtain⟨q,h1,hst⟩:=ab.1 hst
   have k1:s'=ad h.take s∧(h.cell=false→μ'=ν):=by
    cases hce:h.cell with
    |false=>
     simp only[hce]at hst
     obtain⟨w,h2,hst⟩:=ab.1 hst
     obtain⟨y,h3,_⟩:=er hst
     simp only[Option.some.injEq,Prod.mk.injEq]at h3
     exact⟨h3.2.1.symm,fun _=>h3.2.2.symm⟩
    |true=>
     simp only[hce]at hst
     obtain⟨w,h2,hst⟩:=ab.1 hst
     obtain⟨y,h3,_⟩:=er hst
     simp only[Option.some.injEq,Prod.mk.injEq]at h3
     exact⟨h3.2.1.symm,fun h=>by cases h⟩
   have k2:gn P h ty (LV.cv c) (ad h.take t) ν (fun v s μ=>some (v,s,μ))=some (v,ad h.take t,μ'):=by
    simp only[gn,hou]
    refine ab.2 ⟨q,h1,?_⟩
    have key: ∀{own:Bool} {w:LV} {m:Mu},(dy P own ty w fun v=>some (v,ad h.take s,m))=some (v,s',μ')→(dy P own ty w fun v=>some (v,ad h.take t,m))=some (v,ad h.take t,μ'):=by
     intro own w m hk
     have:(dy P own ty w fun v=>some (v,ad h.take t,m))=opt (dy P own ty w fun v=>some (v,ad h.take s,m)) fun q=>some (q.1,ad h.take t,q.2.2):=by
      rw[iC]
      rfl
     rw[this,hk]
     rfl
    cases hce:h.cell with
    |false=>
     simp only[hce]at hst ⊢
     obtain⟨w,h2,hst⟩:=ab.1 hst
     exact ab.2 ⟨w,h2,key hst⟩
    |true=>
     simp only[hce]at hst ⊢
     obtain⟨w,h2,hst⟩:=ab.1 hst
     exact ab.2 ⟨w,h2,key hst⟩
   simp only[gn,hou]at k2
   cases hce:h.cell with
   |false=>
    have e:=k1.2 hce
    subst e
    exact⟨k1.1,rfl,by simpa only[hce]using k2⟩
   |true=>exact⟨k1.1,by simpa only[hce]using k2⟩
  |loc i off=>cases hst
  |osl _=>cases hst
  |lsl _ _ _=>cases hst
  |lclo _ _=>cases hst
  |mloc _=>cases hst
  |tloc _ _ _=>cases hst
  |ost _=>cases hst
  |stl _=>cases hst
  |ltup _=>cases hst
theorem Lh {ty:TypeId}{x y:Operand}(ho:o.op= .store ty x y)(ha:Ag h o s t)(hc:dM (aX h o) s t μ ν)(hst:bg P ρ h o s μ=some (v,s',μ')):Eff P ρ h o (aX h o) s t μ ν v s' μ':=by
 have e1:=ha x (by simp[ho,Op.operands])
 have e2:=ha y (by simp[ho,Op.operands])
 have l1:=aU h.take s
 have l2:=aU h.take t
 have hs1:bg P ρ h o s μ=gB P h ty (evA h s.fr x) (evA h s.fr y) (ad h.take s) μ fun v s μ=>some (v,s,μ):=by simp only[bg,cK,ho]
 have ht1:bg P ρ h o t ν=gB P h ty (evA h s.fr x) (evA h s.fr y) (ad h.take t) ν fun v s μ=>some (v,s,μ):=by simp only[bg,cK,ho,e1,e2]
 rw[hs1]at hst
 unfold Eff
 rw[ht1]
 clear hs1 ht1 e1 e2 ha
 simp only[aX,ho]at hc ⊢
 unfold gB at hst ⊢
 generalize evA h s.fr x=q at hst ⊢
 generalize evA h s.fr y=u at hst ⊢
 cases hou:h.outer with
 |false=>
  simp only[hou,dM]at hc hst ⊢
  cases q with
  |loc i off=>
   dsimp only at hst ⊢
   rw[lg]at hst ⊢
   obtain⟨w,h1,h2⟩:=ab.1 hst
   simp only[Option.some.injEq,Prod.mk.injEq]at h2
   obtain⟨rfl,rfl,rfl⟩:=h2
   refine⟨_,rfl,rfl,ab.2 ⟨w,?_,?_⟩⟩
   ·rw[l2.1,hc,←l1.1];exact h1
   ·rw[l2.1,hc,←l1.1]
  |cv c=>cases hst
  |osl _=>cases hst
  |lsl _ _ _=>cases hst
  |lclo _ _=>cases hst
  |mloc _=>cases hst
  |tloc _ _ _=>cases hst
  |ost _=>cases hst
  |stl _=>cases hst
  |ltup _=>cases hst
 |true=>
  simp only[hou,dM]at hc hst ⊢
  obtain⟨rfl,hpu⟩:=hc
  cases q with
  |cv c=>
   dsimp only at hst ⊢
   obtain⟨q,h1,h2⟩:=ab.1 hst
   obtain⟨h3,h4⟩:=aI.1 h2
   obtain⟨w,h5,h6⟩:=ab.1 h4
   simp only[Option.some.injEq,Prod.mk.injEq]at h6
   obtain⟨rfl,rfl,rfl⟩:=h6
   exact⟨rfl,ab.2 ⟨q,h1,aI.2 ⟨h3,ab.2 ⟨w,h5,rfl⟩⟩⟩⟩
  |loc i off=>cases hst
  |osl _=>cases hst
  |lsl _ _ _=>cases hst
  |lclo _ _=>cases hst
  |mloc _=>cases hst
  |tloc _ _ _=>cases hst
  |ost _=>cases hst
  |stl _=>cases hst
  |ltup _=>cases hst
theorem Lf {ty:TypeId}(ho:o.op= .alloc ty)(hc:dM (aX h o) s t μ ν)(hst:bg P ρ h o s μ=some (v,s',μ')):Eff P ρ h o (aX h o) s t μ ν v s' μ':=by
 have l1:=aU h.take s
 have l2:=aU h.take t
 simp only[aX,ho,dM]at hc
 simp only[aX,ho,Eff]
 simp only[bg,cK,ho]at hst ⊢
 obtain⟨w,h1,h2⟩:=ab.1 hst
 simp only[Option.some.injEq,Prod.mk.injEq]at h2
 obtain⟨rfl,rfl,rfl⟩:=h2
 refine⟨_,by rw[l1.1],rfl,ab.2 ⟨w,h1,?_⟩⟩
 rw[l1.1,l2.1,hc]
theorem Qp {ty:TypeId}{x:Operand}(ho:o.op= .box ty x)(ha:Ag h o s t)(hc:dM (aX h o) s t μ ν)(hst:bg P ρ h o s μ=some (v,s',μ')):Eff P ρ h o (aX h o) s t μ ν v s' μ':=by
 have e:=ha x (by simp[ho,Op.operands])
 have l1:=aU h.take s
 have l2:=aU h.take t
 simp only[aX,ho,dM]at hc
 simp only[aX,ho,Eff]
 simp only[bg,cK,ho,e]at hst ⊢
 obtain⟨w,h1,h2⟩:=ab.1 hst
 simp only[Option.some.injEq,Prod.mk.injEq]at h2
 obtain⟨rfl,rfl,rfl⟩:=h2
 refine⟨_,by rw[l1.1],rfl,ab.2 ⟨w,h1,?_⟩⟩
 rw[l1.1,l2.1,hc]
theorem yf {ty:TypeId}{len:Nat}{parts:Array (Nat×Operand)}(ho:o.op= .buildSlice ty len parts)(hr:h.arr=true)(ha:Ag h o s t)(hc:dM (aX h o) s t μ ν)(hst:bg P ρ h o s μ=some (v,s',μ')):Eff P ρ h o (aX h o) s t μ ν v s' μ':=by
 have e:dv (evA h t.fr) parts.toList=dv (evA h s.fr) parts.toList:=jf fun q hq=>ha q.2 (by simp only[ho,Op.operands];simp;exact⟨q.1,by simpa using hq⟩)
 have l1:=aU h.take s
 have l2:=aU h.take t
 simp only[aX,ho,hr,dM]at hc
 simp only[aX,ho,hr,Eff]
 simp only[bg,cK,ho,e,hr]at hst ⊢
 split at hst<;>try(cases hst;done)
 obtain⟨sz,h1,hst⟩:=ab.1 hst
 obtain⟨h2,hst⟩:=aI.1 hst
 obtain⟨z,h3,hst⟩:=ab.1 hst
 obtain⟨ps,h4,hst⟩:=ab.1 hst
 obtain⟨xs,h5,hst⟩:=ab.1 hst
 obtain⟨h6,hst⟩:=aI.1 hst
 obtain⟨h7,hst⟩:=aI.1 hst
 simp only[Option.some.injEq,Prod.mk.injEq]at hst
 obtain⟨rfl,rfl,rfl⟩:=hst
 refine⟨_,by rw[l1.1],rfl,ab.2 ⟨sz,h1,aI.2 ⟨h2,ab.2 ⟨z,h3,ab.2 ⟨ps,h4,ab.2 ⟨xs,h5,aI.2 ⟨h6,aI.2 ⟨h7,?_⟩⟩⟩⟩⟩⟩⟩⟩
 rw[l1.1,l2.1,hc]
theorem xZ {β:Type}{src dst:TypeId}{q:LV}{f:LV→S→Mu→Option β}(hr:h.arr=false)(hq: ∀id off len,q≠ .lsl id off len):
  cZ P h src dst q t ν f=cZ P h src dst q s μ fun v _ _=>f v t ν:=by
 unfold cZ
 simp only[hr]
theorem C7 {src dst:TypeId}{x:Operand}(ho:o.op= .convert src dst x)(hr:h.arr=false)(ha:Ag h o s t)(hc:dM (aX h o) s t μ ν)(hst:bg P ρ h o s μ=some (v,s',μ')):Eff P ρ h o (aX h o) s t μ ν v s' μ':=by
 have e:=ha x (by simp[ho,Op.operands])
 have l1:=aU h.take s
 have l2:=aU h.take t
 have hs1:bg P ρ h o s μ=cZ P h src dst (evA h s.fr x) (ad h.take s) μ fun v s μ=>some (v,s,μ):=by simp only[bg,cK,ho]
 have ht1:bg P ρ h o t ν=cZ P h src dst (evA h s.fr x) (ad h.take t) ν fun v s μ=>some (v,s,μ):=by simp only[bg,cK,ho,e]
 rw[hs1]at hst
 unfold Eff
 rw[ht1]
 clear hs1 ht1 e ha
 simp only[aX,ho,hr,dM]at hc ⊢
 generalize evA h s.fr x=q at hst ⊢
 by_cases hq: ∀id off len,q≠ .lsl id off len
 ·have key: ∀(t:S) (ν:Mu),(cZ P h src dst q t ν fun v s μ=>some (v,s,μ))=opt (cZ P h src dst q (ad h.take s) μ fun v s μ=>some (v,s,μ)) fun a=>some (a.1,t,ν):=by
   intro t ν
   rw[su]
   exact xZ hr hq
  have h1:=key (ad h.take s) μ
  rw[hst,bu]at h1
  simp only[Option.some.injEq,Prod.mk.injEq,true_and]at h1
  refine⟨h1.1,h1.2,?_⟩
  rw[key,hst]
  rfl
 ·obtain⟨id,off,len,rfl⟩: ∃id off len,q= .lsl id off len:=by
   cases q<;>first|exact⟨_,_,_,rfl⟩|(exfalso;apply hq;intro _ _ _ hh;cases hh)
  unfold cZ at hst ⊢
  simp only[hr]at hst ⊢
  split at hst
  ·split at hst<;>cases hst
  ·rename_i hu
   split at hst
   ·cases hst
   ·rename_i e' hu'
    split at hst<;>try(cases hst;done)
    rename_i hue
    split at hst<;>try(cases hst;done)
    rename_i sz cs hob
    obtain⟨h1,hst⟩:=aI.1 hst
    obtain⟨l,h2,hst⟩:=ab.1 hst
    simp only[Option.some.injEq,Prod.mk.injEq]at hst
    obtain⟨rfl,rfl,rfl⟩:=hst
    rw[l1.1]at hob
    have hob2:aH (ad h.take t).lam id= .arr sz cs:=by
     rw[l2.1,hc id (by rw[hob];trivial)];exact hob
    refine⟨rfl,rfl,?_⟩
    simp only[hob2]
    exact aI.2 ⟨h1,ab.2 ⟨l,h2,rfl⟩⟩
   ·cases hst
  ·split at hst
   ·split at hst<;>cases hst
   ·cases hst
  ·cases hst
theorem NB {c:Call}{fx:Operand}(ho:o.op= .call c)(hc0:c.callee= .value fx)(hp:h.push=false)(ha:Ag h o s t)(hc:dM (aX h o) s t μ ν)(hst:bg P ρ h o s μ=some (v,s',μ')):Eff P ρ h o (aX h o) s t μ ν v s' μ':=by
 have e1:=ha fx (by simp[ho,Op.operands,Call.operands,hc0])
 have em:c.args.toList.map (evA h t.fr)=c.args.toList.map (evA h s.fr):=List.map_congr_left fun x hx=>ha x (by simp[ho,Op.operands,Call.operands,hc0];right;simpa using hx)
 have l1:=aU h.take s
 have l2:=aU h.take t
 simp only[aX,ho,hc0,hp,dM]at hc
 simp only[aX,ho,hc0,hp,Eff]
 obtain⟨rfl,hpu⟩:=hc
 have key: ∀(f:FuncId) (args:List LV),(fQ P ρ h o.type f args (ad h.take s) ν (fun v s μ=>some (v,s,μ)) fun _ _ _=>none)=some (v,s',μ')→
   s'=ad h.take s∧(fQ P ρ h o.type f args (ad h.take t) ν (fun v s μ=>some (v,s,μ)) fun _ _ _=>none)=some (v,ad h.take t,μ'):=by
  intro f args hk
  unfold fQ at hk ⊢
  simp only[hp]at hk ⊢
  obtain⟨h1,hk⟩:=aI.1 hk
  have h1':(!(ad h.take t).pushed&&fw args)=true:=by rw[l2.2,hpu,←l1.2];exact h1
  unfold callK at hk
  obtain⟨out,h2,hk⟩:=ab.1 hk
  cases out with
  |panic pv m=>cases hk
  |ret rv m=>
   dsimp only at hk
   obtain⟨y,h3,_⟩:=er hk
   simp only[Option.some.injEq,Prod.mk.injEq]at h3
   refine⟨h3.2.1.symm,aI.2 ⟨h1',?_⟩⟩
   unfold callK
   refine ab.2 ⟨.ret rv m,h2,?_⟩
   dsimp only
   have:(dy P h.own o.type rv fun v=>some (v,ad h.take t,m))=opt (dy P h.own o.type rv fun v=>some (v,ad h.take s,m)) fun q=>some (q.1,ad h.take t,q.2.2):=by
    rw[iC]
    rfl
   rw[this,hk]
   rfl
 simp only[bg,cK,ho,hc0,e1,em]at hst ⊢
 obtain⟨h1,hst⟩:=aI.1 hst
 revert hst
 generalize evA h s.fr fx=q
 intro hst
 cases q with
 |cv cc=>
  cases cc with
  |clo f caps=>
   obtain⟨k1,k2⟩:=key _ _ hst
   exact⟨k1,aI.2 ⟨h1,k2⟩⟩
  |_=>cases hst
 |lclo f caps=>
  obtain⟨k1,k2⟩:=key _ _ hst
  exact⟨k1,aI.2 ⟨h1,k2⟩⟩
 |_=>cases hst
end
end Go.Abs
set_option linter.unusedVariables false
set_option linter.unusedSimpArgs false
namespace Go.Abs
open Go
section
variable {P:Program}{ρ:Rho}{h:OpHint}{o:Oper}{s t s':S}{μ ν μ':Mu}{v:LV}
theorem MM (ha:Ag h o s t)(hc:dM (aX h o) s t μ ν)(hk:aX h o≠ .all)(hst:bg P ρ h o s μ=some (v,s',μ')):Eff P ρ h o (aX h o) s t μ ν v s' μ':=by
 have pl:aX h o= .plain→(∀t ν,Ag h o s t→cl P ρ h o s t μ ν)→Eff P ρ h o (aX h o) s t μ ν v s' μ':=fun e hp=>by rw[e];exact Lg hp ha hst
 cases ho:o.op with
 |move x=>exact pl (by simp[aX,ho]) fun t ν ha=>Gi (.inl ho) ha
 |assign x=>exact pl (by simp[aX,ho]) fun t ν ha=>Gi (.inr ho) ha
 |pick c x y=>exact pl (by simp[aX,ho]) fun t ν ha=>Rl ho ha
 |alloc ty=>exact Lf ho hc hst
 |box ty x=>exact Qp ho ha hc hst
 |build ty ps=>exact pl (by simp[aX,ho]) fun t ν ha=>OE ho ha
 |buildSlice ty len ps=>
  cases hr:h.arr with
  |true=>exact yf ho hr ha hc hst
  |false=>exact pl (by simp[aX,ho,hr]) fun t ν ha=>zM ho hr ha
 |load ty x=>exact NC ho ha hc hst
 |store ty x y=>exact Lh ho ha hc hst
 |nilCheck x=>exact pl (by simp[aX,ho]) fun t ν ha=>Eg ho ha
 |binOp op ty x y ty'=>exact pl (by simp[aX,ho]) fun t ν ha=>OD ho ha
 |unOp op ty x=>exact pl (by simp[aX,ho]) fun t ν ha=>Rm ho ha
 |convert src dst x=>
  cases hr:h.arr with
  |true=>exact absurd (by simp[aX,ho,hr]) hk
  |false=>exact C7 ho hr ha hc hst
 |makeInterface ty x=>exact pl (by simp[aX,ho]) fun t ν ha=>vT ho ha
 |makeFunc fn first captured=>exact pl (by simp[aX,ho]) fun t ν ha=>Ef ho ha
 |slice ty x lo hi mx=>exact pl (by simp[aX,ho]) fun t ν ha=>OH ho ha
 |fieldAddr ty x f=>exact pl (by simp[aX,ho]) fun t ν ha=>Ch ho ha
 |field ty x f=>exact pl (by simp[aX,ho]) fun t ν ha=>OF ho ha
 |indexAddr ty x y=>exact pl (by simp[aX,ho]) fun t ν ha=>Ci ho ha
 |index ty x y=>exact pl (by simp[aX,ho]) fun t ν ha=>OG ho ha
 |extract x i=>exact pl (by simp[aX,ho]) fun t ν ha=>Jc ho ha
 |panic x=>exact absurd (by simp[aX,ho]) hk
 |typeAssert x xt ty ok=>exact absurd (by simp[aX,ho]) hk
 |makeMap ty x=>exact absurd (by simp[aX,ho]) hk
 |insert ty m x y=>exact absurd (by simp[aX,ho]) hk
 |mapUpdate ty m x y=>exact absurd (by simp[aX,ho]) hk
 |lookup ty m x ok=>exact absurd (by simp[aX,ho]) hk
 |call c=>
  cases hc0:c.callee with
  |builtin b=>exact pl (by simp[aX,ho,hc0]) fun t ν ha=>Jb ho hc0 ha
  |value fx=>
   cases hp:h.push with
   |true=>exact absurd (by simp[aX,ho,hc0,hp]) hk
   |false=>exact NB ho hc0 hp ha hc hst
  |invoke r m=>simp[bg,cK,ho,hc0]at hst
 |_=>simp[bg,cK,ho]at hst
end
end Go.Abs
set_option linter.unusedVariables false
set_option linter.unusedSimpArgs false
namespace Go.Abs
open Go
def jg (P:Program)(ρ:Rho)(H:Hints)(rg:Nat)(ops:Array Oper)(i:Nat)(s:S)(μ:Mu):Option (S×Mu):=
  match ops[i]? with
  |none=>none
  |some o=>match o.guard with
    |none=>opt (bg P ρ (H.op rg i) o s μ) fun q=>some (q.2.1.put o.dst q.1,q.2.2)
    |some g=>opt (mf ops g.1) fun d=>opt (d9 (s.fr d)) fun q=>match q == some g.2 with
      |true=>opt (bg P ρ (H.op rg i) o s μ) fun q=>some (q.2.1.put o.dst q.1,q.2.2)
      |false=>some (s.put o.dst (.cv (.v Go.undef)),μ)
section
variable {P:Program}{ρ:Rho}{H:Hints}{rg:Nat}{ops:Array Oper}{α:Type}
theorem vP {h:OpHint}(hf:jj h=true){o:Oper}{s:S}{μ:Mu}{f:LV→S→Mu→Option α}:opK P ρ h o s μ f (fun _ _ _=>none)=opt (bg P ρ h o s μ) fun q=>f q.1 q.2.1 q.2.2:=by
  unfold jj at hf
  split at hf
  · rename_i h1 h2
    unfold opK
    rw[h1,h2]
    exact Mh
  · cases hf
theorem Mi {i:Nat}{rest:List Nat}(hf:jj (H.op rg i)=true){s:S}{μ:Mu}{k:S→Mu→Option α}:
    eM P ρ H rg ops (i::rest) s μ k (fun _ _ _=>none)=opt (jg P ρ H rg ops i s μ) fun q=>eM P ρ H rg ops rest q.1 q.2 k fun _ _ _=>none:=by
  simp only[eM,jg]
  cases ops[i]? with
  |none=>rfl
  |some o=>
    dsimp only
    cases o.guard with
    |none=>dsimp only;rw[vP hf,aG];rfl
    |some g=>
      dsimp only
      simp only[aG]
      congr;funext d
      cases hq:d9 (s.fr d)with
      |none=>rfl
      |some q=>
       cases q with
       |none=>rfl
       |some b=>
        simp only[bu]
        have hb:=lX hq
        have hd:=ft hb
        obtain⟨j,want⟩:=g
        cases b<;>cases want<;>simp only[cond_true,cond_false,S.set_self s d _ hd,vP hf,aG,bu,beq_self_eq_true]<;>rfl
def gL (P:Program)(ρ:Rho)(H:Hints)(rg:Nat)(ops:Array Oper)(i:Nat)(o:Oper)(s:S)(μ:Mu):Option (LV×S×Mu):=
  match o.guard with
  |none=>bg P ρ (H.op rg i) o s μ
  |some g=>opt (mf ops g.1) fun d=>opt (d9 (s.fr d)) fun q=>match q == some g.2 with
    |true=>bg P ρ (H.op rg i) o s μ
    |false=>some (.cv (.v Go.undef),s,μ)
theorem mt {i:Nat}{o:Oper}(ho:ops[i]? =some o){s:S}{μ:Mu}:jg P ρ H rg ops i s μ=opt (gL P ρ H rg ops i o s μ) fun q=>some (q.2.1.put o.dst q.1,q.2.2):=by
  simp only[jg,gL,ho]
  cases o.guard with
  |none=>rfl
  |some g=>
    dsimp only
    simp only[aG]
    congr;funext d;congr;funext b
    cases b == some g.2<;>rfl
def pi (P:Program)(ρ:Rho)(H:Hints)(rg:Nat)(ops:Array Oper)(i:Nat)(o:Oper)(T:List Nat)(k:Kind)(s t:S)(μ ν:Mu)(v:LV)(s':S)(μ':Mu):Prop:=
  match k with
  | .plain=>s'=ad T s∧μ'=μ∧gL P ρ H rg ops i o t ν=some (v,ad T t,ν)
  | .rd=>s'=ad T s∧μ'=μ∧gL P ρ H rg ops i o t ν=some (v,ad T t,ν)
  | .wr=> ∃lam',s'={ad T s with lam:=lam'}∧μ'=μ∧gL P ρ H rg ops i o t ν=some (v,{ad T t with lam:=lam'},ν)
  | .ap=> ∃ob,s'={ad T s with lam:=s.lam++[ob]}∧μ'=μ∧gL P ρ H rg ops i o t ν=some (v,{ad T t with lam:=t.lam++[ob]},ν)
  | .look=>s'=ad T s∧μ'=μ∧gL P ρ H rg ops i o t ν=some (v,ad T t,ν)
  | .ou=>s'=ad T s∧gL P ρ H rg ops i o t ν=some (v,ad T t,μ')
  | .all=>False
def AgR (hh:OpHint)(ops:Array Oper)(o:Oper)(s t:S):Prop:= ∀u,u∈o.looksAt ops→t.fr u=s.fr u∨(kK hh.take u=false∧strip (t.fr u)=strip (s.fr u))
theorem zO (x:LV):strip1 (strip1 x)=strip1 x:=by cases x<;>rfl
theorem Eu (x:LV):strip (strip x)=strip x:=by
  cases x<;>first|rfl|(simp only[strip,List.map_map];congr 1;exact List.map_congr_left fun x _=>zO x)
theorem oQ (x:LV):d9 (strip x)=d9 x:=by cases x<;>rfl
theorem AgR.ag {hh:OpHint}{o:Oper}{s t:S}(h:AgR hh ops o s t):Ag hh o s t:=by
  intro x hx
  cases x with
  |tmp u=>
    have hu:u∈o.looksAt ops:=by
      unfold Oper.looksAt
      refine List.mem_append_left _ (List.mem_filterMap.2 ⟨.tmp u,hx,rfl⟩)
    simp only[evA]
    rcases h u hu with e|⟨e1,e2⟩
    · rw[e]
    · rw[e1];exact e2
  |const c=>rfl
  |global g=>rfl
  |func f=>rfl
theorem AgR.guard {hh:OpHint}{o:Oper}{s t:S}(h:AgR hh ops o s t){g:Nat×Bool}(hg:o.guard=some g){d:Nat}(hd:mf ops g.1=some d):d9 (t.fr d)=d9 (s.fr d):=by
  suffices hs:d∈o.looksAt ops by
    rcases h d hs with e|⟨_,e⟩
    · rw[e]
    · rw[←oQ,e,oQ]
  unfold Oper.looksAt
  refine List.mem_append_right _ ?_
  rw[hg]
  obtain⟨j,b⟩:=g
  simp only[mf]at hd
  cases hj:ops[j]? with
  |none=>rw[hj]at hd;cases hd
  |some oj=>
    rw[hj]at hd
    have hd:oj.dst=some d:=hd
    simp[hj,hd]
theorem Ba {i:Nat}{o:Oper}{s t s':S}{μ ν μ':Mu}{v:LV}(ha:AgR (H.op rg i) ops o s t)(hk:aX (H.op rg i) o≠ .all)(hst:gL P ρ H rg ops i o s μ=some (v,s',μ')):
    ∃T k,(T=(H.op rg i).take∨T=[])∧(k=aX (H.op rg i) o∨k= .plain)∧ ∀t ν,AgR (H.op rg i) ops o s t→dM (aX (H.op rg i) o) s t μ ν→pi P ρ H rg ops i o T k s t μ ν v s' μ':=by
  have run:gL P ρ H rg ops i o s μ=bg P ρ (H.op rg i) o s μ→(∀t ν,AgR (H.op rg i) ops o s t→gL P ρ H rg ops i o t ν=bg P ρ (H.op rg i) o t ν)→
      ∃T k,(T=(H.op rg i).take∨T=[])∧(k=aX (H.op rg i) o∨k= .plain)∧ ∀t ν,AgR (H.op rg i) ops o s t→dM (aX (H.op rg i) o) s t μ ν→pi P ρ H rg ops i o T k s t μ ν v s' μ':=by
    intro e1 e2
    rw[e1]at hst
    refine⟨_,_,.inl rfl,.inl rfl,fun t ν ha hc=> ?_⟩
    have:=MM ha.ag hc hk hst
    unfold Eff at this
    unfold pi
    rw[e2 t ν ha]
    revert this hk
    cases aX (H.op rg i) o<;>intro hk this<;>first|exact this|exact absurd rfl hk
  cases hg:o.guard with
  |none=>exact run (by simp only[gL,hg]) fun t ν _=>by simp only[gL,hg]
  |some g=>
    have hst':=hst
    simp only[gL,hg]at hst'
    obtain⟨d,hd,hst'⟩:=ab.1 hst'
    obtain⟨b,hb,hst'⟩:=ab.1 hst'
    cases hbg:b == some g.2 with
    |true=>
      refine run (by simp only[gL,hg,hd,hb,bu,hbg]) fun t ν ha=> ?_
      have:=ha.guard hg hd
      simp only[gL,hg,hd,this,hb,bu,hbg]
    |false=>
      rw[hbg]at hst'
      simp only[Option.some.injEq,Prod.mk.injEq]at hst'
      obtain⟨rfl,rfl,rfl⟩:=hst'
      refine⟨[],.plain,.inr rfl,.inr rfl,fun t ν ha hc=>⟨rfl,rfl,?_⟩⟩
      have:=ha.guard hg hd
      simp only[gL,hg,hd,this,hb,bu,hbg,ad]
def vS (u:Nat):List Nat→LV→LV
  |[],x=>x
  |t::r,x=>vS u r (if u=t then strip x else x)
def phi (T:List Nat)(dst:Option Nat)(v:LV)(u:Nat)(x:LV):LV:=if dst=some u then v else vS u T x
theorem sR: ∀(T:List Nat) (s:S) (u:Nat),(ad T s).fr u=vS u T (s.fr u)
  |[],s,u=>rfl
  |t::r,s,u=>by
    simp only[ad,vS]
    rw[sR r]
    congr 1
    by_cases hu:u=t
    · subst hu;simp only[S.set,fa,if_true]
    · simp only[S.set,eu _ _ hu,if_neg hu]
theorem mG {s':S}{T:List Nat}{s:S}{dst:Option Nat}{v:LV}(h:s'.fr=(ad T s).fr)(u:Nat):(s'.put dst v).fr u=phi T dst v u (s.fr u):=by
  unfold phi
  cases dst with
  |none=>simp only[S.put,h,sR,reduceCtorEq,if_false]
  |some d=>
    by_cases hu:u=d
    · subst hu;simp only[S.put,S.set,fa,if_true]
    · have: ¬(some d=some u):=fun e=>hu (Option.some.inj e).symm
      simp only[S.put,S.set,eu _ _ hu,h,sR,if_neg this]
theorem xi {u:Nat}: ∀{T:List Nat} {x:LV},u ∉ T→vS u T x=x
  |[],x,_=>rfl
  |t::r,x,h=>by
    simp only[List.mem_cons,not_or]at h
    simp only[vS,if_neg h.1]
    exact xi h.2
theorem jD {T:List Nat}{dst:Option Nat}{v:LV}{u:Nat}{x:LV}(h1:dst≠some u)(h2:u ∉ T):phi T dst v u x=x:=by
  unfold phi
  rw[if_neg h1,xi h2]
theorem tG (s:S)(dst:Option Nat)(v:LV):(s.put dst v).lam=s.lam∧(s.put dst v).pushed=s.pushed:=by
  cases dst<;>exact⟨rfl,rfl⟩
end
end Go.Abs
set_option linter.unusedVariables false
set_option linter.unusedSimpArgs false
namespace Go.Abs
open Go
section
variable {P:Program}{ρ:Rho}{H:Hints}{rg:Nat}{ops:Array Oper}
def mM (k:Kind)(s s1:S)(μ μ1:Mu):Prop:=
 s1.pushed=s.pushed∧match k with
 | .plain=>s1.lam=s.lam∧μ1=μ
 | .rd=>s1.lam=s.lam∧μ1=μ
 | .wr=>μ1=μ
 | .ap=>(∃ob,s1.lam=s.lam++[ob])∧μ1=μ
 | .look=>s1.lam=s.lam∧μ1=μ
 | .ou=>s1.lam=s.lam
 | .all=>False
theorem pi.left {i:Nat}{o:Oper}{T:List Nat}{k:Kind}{s t s':S}{μ ν μ':Mu}{v:LV}(h:pi P ρ H rg ops i o T k s t μ ν v s' μ'):mM k s s' μ μ'∧s'.fr=(ad T s).fr:=by
 have l:=aU T s
 unfold pi at h
 unfold mM
 cases k with
 |plain=>obtain⟨rfl,rfl,_⟩:=h;exact⟨⟨l.2,l.1,rfl⟩,rfl⟩
 |rd=>obtain⟨rfl,rfl,_⟩:=h;exact⟨⟨l.2,l.1,rfl⟩,rfl⟩
 |wr=>obtain⟨lam',rfl,rfl,_⟩:=h;exact⟨⟨l.2,rfl⟩,rfl⟩
 |ap=>obtain⟨ob,rfl,rfl,_⟩:=h;exact⟨⟨l.2,⟨ob,rfl⟩,rfl⟩,rfl⟩
 |look=>obtain⟨rfl,rfl,_⟩:=h;exact⟨⟨l.2,l.1,rfl⟩,rfl⟩
 |ou=>obtain⟨rfl,_⟩:=h;exact⟨⟨l.2,l.1⟩,rfl⟩
 |all=>exact h.elim
theorem Ki {kj ki:Kind}(hm:eC kj ki=true∨kj= .plain)(hki:ki≠ .all){s s1:S}{μ μ1:Mu}(h:mM kj s s1 μ μ1):dM ki s1 s μ1 μ:=by
 unfold mM at h
 obtain⟨hp,h⟩:=h
 cases kj<;>cases ki<;>simp_all [eC,dM]
theorem Ny {kj ki:Kind}(hm:eC kj ki=true∨ki= .plain)(hkj:kj≠ .all){s t1:S}{μ ν1:Mu}(h:mM ki s t1 μ ν1):dM kj s t1 μ ν1:=by
 unfold mM at h
 obtain⟨hp,h⟩:=h
 cases kj<;>cases ki<;>simp_all [eC,dM]
 obtain⟨⟨ob,h1⟩,h2⟩:=h
 intro i hi
 rw[h1]
 exact hJ (m9 hi)
def Mem (k:Kind)(a b:Lam)(μ ν:Mu)(a' b':Lam)(μ' ν':Mu):Prop:=
 match k with
 | .plain=>a'=a∧b'=b∧μ'=μ∧ν'=ν
 | .rd=>a'=a∧b'=b∧μ'=μ∧ν'=ν
 | .wr=>b'=a'∧μ'=μ∧ν'=ν
 | .ap=>(∃ob,a'=a++[ob]∧b'=b++[ob])∧μ'=μ∧ν'=ν
 | .look=>a'=a∧b'=b∧μ'=μ∧ν'=ν
 | .ou=>a'=a∧b'=b∧ν'=μ'
 | .all=>False
theorem pi.out {i:Nat}{o:Oper}{T:List Nat}{k:Kind}{s t s':S}{μ ν μ':Mu}{v:LV}(h:pi P ρ H rg ops i o T k s t μ ν v s' μ'):
  ∃X ν',gL P ρ H rg ops i o t ν=some (v,X,ν')∧X.fr=(ad T t).fr∧X.pushed=t.pushed∧Mem k s.lam t.lam μ ν s'.lam X.lam μ' ν'∧mM k t X ν ν':=by
 have l:=aU T s
 have l2:=aU T t
 unfold pi at h
 cases k with
 |plain=>obtain⟨rfl,rfl,h⟩:=h;exact⟨_,_,h,rfl,l2.2,⟨l.1,l2.1,rfl,rfl⟩,l2.2,l2.1,rfl⟩
 |rd=>obtain⟨rfl,rfl,h⟩:=h;exact⟨_,_,h,rfl,l2.2,⟨l.1,l2.1,rfl,rfl⟩,l2.2,l2.1,rfl⟩
 |wr=>obtain⟨lam',rfl,rfl,h⟩:=h;exact⟨_,_,h,rfl,l2.2,⟨rfl,rfl,rfl⟩,l2.2,rfl⟩
 |ap=>obtain⟨ob,rfl,rfl,h⟩:=h;exact⟨_,_,h,rfl,l2.2,⟨⟨ob,rfl,rfl⟩,rfl,rfl⟩,l2.2,⟨ob,rfl⟩,rfl⟩
 |look=>obtain⟨rfl,rfl,h⟩:=h;exact⟨_,_,h,rfl,l2.2,⟨l.1,l2.1,rfl,rfl⟩,l2.2,l2.1,rfl⟩
 |ou=>obtain⟨rfl,h⟩:=h;exact⟨_,_,h,rfl,l2.2,⟨l.1,l2.1,rfl⟩,l2.2,l2.1⟩
 |all=>exact h.elim
theorem kD: ∀{a b:List Nat},ye a b=true→ ∀x,x∈a→x ∉ b
 |[],b,_,x,hx=>by simp at hx
 |y::r,b,h,x,hx=>by
  simp only[ye]at h
  split at h
  ·cases h
  ·rename_i hm
   rcases List.mem_cons.1 hx with rfl|hx
   ·intro hb;rw[ji.2 hb]at hm;cases hm
   ·exact kD h x hx
theorem oh {h:OpHint}{o:Oper}{u:Nat}:u∈jK h o↔o.dst=some u∨u∈h.take:=by
 unfold jK
 cases o.dst with
 |none=>simp
 |some d=>simp[eq_comm]
theorem mj {h:OpHint}{o:Oper}{u:Nat}(hu:u ∉ jK h o){T:List Nat}(hT:T=h.take∨T=[]):o.dst≠some u∧u ∉ T:=by
 rw[oh,not_or]at hu
 refine⟨hu.1,?_⟩
 rcases hT with rfl|rfl
 ·exact hu.2
 ·simp
theorem CS {kj ki kj' ki':Kind}(h:eC kj ki=true)(hj:kj'=kj∨kj'= .plain)(hi:ki'=ki∨ki'= .plain):eC kj' ki'=true:=by
 rcases hj with e|e<;>rcases hi with e'|e'<;>rw[e,e']<;>cases kj<;>cases ki<;>simp_all [eC]
theorem NS {kj ki:Kind}{l l1 l2 t1 y:Lam}{μ μ1 μ2 ν1 ν2:Mu}(ha:eC kj ki=true)(hb:Mem ki l1 l μ1 μ l2 t1 μ2 ν1)(hc:Mem kj l t1 μ ν1 l1 y μ1 ν2):y=l2∧ν2=μ2:=by
 cases kj<;>cases ki<;>simp only[eC,Bool.false_eq_true]at ha<;>simp only[Mem]at hb hc
 all_goals first
  |(obtain⟨a1,a2,a3,a4⟩:=hb;obtain⟨b1,b2,b3,b4⟩:=hc;subst_vars;exact⟨rfl,rfl⟩)
  |(obtain⟨⟨ob,a1,a2⟩,a3,a4⟩:=hb;obtain⟨b1,b2,b3,b4⟩:=hc;subst_vars;exact⟨rfl,rfl⟩)
  |(obtain⟨a1,a2,a3⟩:=hb;obtain⟨b1,b2,b3,b4⟩:=hc;subst_vars;exact⟨rfl,rfl⟩)
  |(obtain⟨a1,a2,a3,a4⟩:=hb;obtain⟨b1,b2,b3⟩:=hc;subst_vars;exact⟨rfl,rfl⟩)
  |(obtain⟨⟨ob,a1,a2⟩,a3,a4⟩:=hb;obtain⟨⟨ob2,b1,b2⟩,b3,b4⟩:=hc;subst_vars;exact⟨rfl,rfl⟩)
  |(obtain⟨a1,a2,a3⟩:=hb;obtain⟨b1,b2,b3⟩:=hc;subst_vars;exact⟨rfl,rfl⟩)
  |(obtain⟨a1,a2,a3,a4⟩:=hb;obtain⟨⟨ob,b1,b2⟩,b3,b4⟩:=hc;subst_vars;exact⟨rfl,rfl⟩)
  |(obtain⟨a1,a2,a3⟩:=hb;obtain⟨⟨ob,b1,b2⟩,b3,b4⟩:=hc;subst_vars;exact⟨rfl,rfl⟩)
  |(obtain⟨⟨ob,a1,a2⟩,a3,a4⟩:=hb;obtain⟨b1,b2,b3⟩:=hc;subst_vars;exact⟨rfl,rfl⟩)
theorem zl {T:List Nat}{dst:Option Nat}{v:LV}{u:Nat}{x:LV}(h1:dst≠some u):strip (phi T dst v u x)=strip x:=by
 unfold phi
 rw[if_neg h1]
 induction T generalizing x with
 |nil=>rfl
 |cons t r ih=>
  simp only[vS]
  rw[ih]
  split
  ·exact Eu x
  ·rfl
theorem VP {i j:Nat}{s s1 s2:S}{μ μ1 μ2:Mu}(hind:tz H rg ops j i=true)(h1:jg P ρ H rg ops j s μ=some (s1,μ1))(h2:jg P ρ H rg ops i s1 μ1=some (s2,μ2)):
  ∃t1 ν1,jg P ρ H rg ops i s μ=some (t1,ν1)∧jg P ρ H rg ops j t1 ν1=some (s2,μ2):=by
 unfold tz at hind
 split at hind<;>try(cases hind;done)
 rename_i oj oi hj hi
 simp only[Bool.and_eq_true]at hind
 obtain⟨⟨⟨d1,d2⟩,d3⟩,hm⟩:=hind
 have hkj:aX (H.op rg j) oj≠ .all:=fun e=>by rw[e]at hm;simp[eC]at hm
 have hki:aX (H.op rg i) oi≠ .all:=fun e=>by rw[e]at hm;revert hm;cases aX (H.op rg j) oj<;>simp[eC]
 rw[mt hj]at h1
 obtain⟨⟨vj,sj,μj⟩,g1,e1⟩:=ab.1 h1
 simp only[Option.some.injEq,Prod.mk.injEq]at e1
 obtain⟨rfl,rfl⟩:=e1
 rw[mt hi]at h2
 obtain⟨⟨vi,si,μi⟩,g2,e2⟩:=ab.1 h2
 simp only[Option.some.injEq,Prod.mk.injEq]at e2
 obtain⟨rfl,rfl⟩:=e2
 obtain⟨Tj,kj,hTj,hkj',Ej⟩:=Ba (t:=s) (ν:=μ) (fun _ _=> .inl rfl) hkj g1
 obtain⟨Ti,ki,hTi,hki',Ei⟩:=Ba (t:=sj.put oj.dst vj) (ν:=μj) (fun _ _=> .inl rfl) hki g2
 have hcond0: ∀k:Kind,dM k s s μ μ:=fun k=>by cases k<;>simp[dM]
 obtain⟨Lj,frj⟩:=(Ej s μ (fun _ _=> .inl rfl) (hcond0 _)).left
 have hput:=tG sj oj.dst vj
 have Lj':mM kj s (sj.put oj.dst vj) μ μj:=by
  unfold mM at Lj ⊢
  rw[hput.1,hput.2]
  exact Lj
 have hahead:=CS hm hkj' hki'
 have hag1:AgR (H.op rg i) ops oi (sj.put oj.dst vj) s:=by
  intro u hu
  have hnd:oj.dst≠some u:=fun h=>kD d1 u (by simp[Hb,h]) hu
  rw[mG frj u]
  by_cases hw:u∈jK (H.op rg j) oj
  ·right
   refine⟨?_,(zl hnd).symm⟩
   cases hm:kK (H.op rg i).take u with
   |false=>rfl
   |true=>exact absurd (oh.2 (.inr (ji.1 hm))) (kD d2 u hw)
  ·obtain⟨n1,n2⟩:=mj hw hTj
   exact .inl (jD n1 n2).symm
 have hc1:dM (aX (H.op rg i) oi) (sj.put oj.dst vj) s μj μ:=by
  refine Ki ?_ hki Lj'
  rcases hkj' with rfl|rfl
  ·exact .inl hm
  ·exact .inr rfl
 obtain⟨X,ν1,hX,frX,puX,memX,LX⟩:=(Ei s μ hag1 hc1).out
 have hputX:=tG X oi.dst vi
 have LX':mM ki s (X.put oi.dst vi) μ ν1:=by
  unfold mM at LX ⊢
  rw[hputX.1,hputX.2]
  exact LX
 have hag2:AgR (H.op rg j) ops oj s (X.put oi.dst vi):=by
  intro u hu
  have hnd:oi.dst≠some u:=fun h=>kD d3 u (by simp[Hb,h]) hu
  rw[mG frX u]
  by_cases hw:u∈jK (H.op rg i) oi
  ·right
   refine⟨?_,zl hnd⟩
   cases hm:kK (H.op rg j).take u with
   |false=>rfl
   |true=>exact absurd hw (kD d2 u (oh.2 (.inr (ji.1 hm))))
  ·obtain⟨n1,n2⟩:=mj hw hTi
   exact .inl (jD n1 n2)
 have hc2:dM (aX (H.op rg j) oj) s (X.put oi.dst vi) μ ν1:=by
  refine Ny (ki:=ki) ?_ hkj LX'
  rcases hki' with rfl|rfl
  ·exact .inl hm
  ·exact .inr rfl
 obtain⟨Y,ν2,hY,frY,puY,memY,LY⟩:=(Ej _ _ hag2 hc2).out
 refine⟨X.put oi.dst vi,ν1,by rw[mt hi,hX];rfl,?_⟩
 rw[mt hj,hY]
 simp only[bu,Option.some.injEq,Prod.mk.injEq]
 have hputY:=tG Y oj.dst vj
 have hputi:=tG si oi.dst vi
 obtain⟨Li,fri⟩:=(Ei _ μj (fun _ _=> .inl rfl) (by cases aX (H.op rg i) oi<;>simp[dM])).left
 have hmem:Y.lam=si.lam∧ν2=μi∧Y.pushed=si.pushed:=by
  rw[hput.1]at memX
  rw[hputX.1]at memY
  have p1:si.pushed=s.pushed:=by rw[Li.1,hput.2,Lj.1]
  have p2:Y.pushed=s.pushed:=by rw[puY,hputX.2,puX]
  obtain⟨m1,m2⟩:=NS hahead memX memY
  exact⟨m1,m2,by rw[p1,p2]⟩
 refine⟨?_,hmem.2.1⟩
 have hfr: ∀u,(Y.put oj.dst vj).fr u=(si.put oi.dst vi).fr u:=by
  intro u
  rw[mG frY u,mG frX u,mG fri u,mG frj u]
  by_cases hu:u∈jK (H.op rg j) oj
  ·have hnw:=kD d2 u hu
   obtain⟨n1,n2⟩:=mj hnw hTi
   rw[jD n1 n2,jD n1 n2]
  ·obtain⟨n1,n2⟩:=mj hu hTj
   rw[jD n1 n2,jD n1 n2]
 have e1:(Y.put oj.dst vj).fr=(si.put oi.dst vi).fr:=funext hfr
 have e2:(Y.put oj.dst vj).lam=(si.put oi.dst vi).lam:=by rw[hputY.1,hputi.1];exact hmem.1
 have e3:(Y.put oj.dst vj).pushed=(si.put oi.dst vi).pushed:=by rw[hputY.2,hputi.2];exact hmem.2.2
 revert e1 e2 e3
 generalize Y.put oj.dst vj=A
 generalize si.put oi.dst vi=B
 intro e1 e2 e3
 cases A;cases B
 simp only at e1 e2 e3
 rw[e1,e2,e3]
end
end Go.Abs
set_option linter.unusedVariables false
set_option linter.unusedSimpArgs false
namespace Go.Abs
open Go
section
variable {P:Program}{ρ:Rho}{H:Hints}{rg:Nat}{ops:Array Oper}{α:Type}
def nk (P:Program)(ρ:Rho)(H:Hints)(rg:Nat)(ops:Array Oper):List Nat→S→Mu→Option (S×Mu)
 |[],s,μ=>some (s,μ)
 |i::r,s,μ=>opt (jg P ρ H rg ops i s μ) fun q=>nk P ρ H rg ops r q.1 q.2
theorem Cg: ∀{l:List Nat} (hf: ∀i∈l,jj (H.op rg i)=true) {s:S} {μ:Mu} {k:S→Mu→Option α},
  eM P ρ H rg ops l s μ k (fun _ _ _=>none)=opt (nk P ρ H rg ops l s μ) fun q=>k q.1 q.2
 |[],hf,s,μ,k=>by simp only[eM,nk,bu]
 |i::r,hf,s,μ,k=>by
  rw[Mi (hf i (by simp)),nk,aG]
  congr;funext q
  exact Cg fun j hj=>hf j (List.mem_cons_of_mem _ hj)
theorem PA {i:Nat}: ∀{l:List Nat} {s:S} {μ:Mu} {out:S×Mu},l.Pairwise (· < ·)→i∈l→(∀j∈l,j<i→tz H rg ops j i=true)→nk P ρ H rg ops l s μ=some out→
  ∃q,jg P ρ H rg ops i s μ=some q∧nk P ρ H rg ops (l.erase i) q.1 q.2=some out
 |[],s,μ,out,hp,hi,hx,h=>by simp at hi
 |j::r,s,μ,out,hp,hi,hx,h=>by
  simp only[nk]at h
  obtain⟨q,h1,h2⟩:=ab.1 h
  by_cases hji:j=i
  ·subst hji
   exact⟨q,h1,by simpa using h2⟩
  ·have hir:i∈r:=by
    rcases List.mem_cons.1 hi with rfl|h
    ·exact absurd rfl hji
    ·exact h
   rw[List.pairwise_cons]at hp
   obtain⟨p,k1,k2⟩:=PA hp.2 hir (fun k hk hlt=>hx k (List.mem_cons_of_mem _ hk) hlt) h2
   obtain⟨s1,μ1⟩:=q
   obtain⟨s2,μ2⟩:=p
   obtain⟨t1,ν1,m1,m2⟩:=VP (hx j (by simp) (hp.1 i hir)) h1 k1
   refine⟨(t1,ν1),m1,?_⟩
   rw[List.erase_cons_tail (by simpa using hji)]
   simp only[nk]
   exact ab.2 ⟨_,m2,k2⟩
theorem pW {f:Nat→Bool}: ∀{n:Nat},AW f n=true→ ∀i,i<n→f i=true
 |0,_,i,hi=>by omega
 |n+1,h,i,hi=>by
  simp only[AW]at h
  split at h<;>try(cases h;done)
  rename_i hn
  rcases Nat.lt_or_ge i n with h1|h1
  ·exact pW h i h1
  ·have:i=n:=by omega
   subst this
   exact hn
theorem FL {i:Nat}: ∀{l:List Nat},ltB i l=true→ ∀p∈l,p<i
 |[],_,p,hp=>by simp at hp
 |q::r,h,p,hp=>by
  simp only[ltB]at h
  split at h<;>try(cases h;done)
  rename_i hq
  rcases List.mem_cons.1 hp with rfl|hp
  ·simpa[Nat.blt_eq]using hq
  ·exact FL h p hp
theorem sn {rows:List (List Nat)}: ∀{l:List Nat} {j:Nat},j∈xu rows l→ ∃p∈l,j=p∨j∈rows.getD p []
 |[],j,h=>by simp[xu]at h
 |p::r,j,h=>by
  simp only[xu,List.mem_cons,List.mem_append]at h
  rcases h with h|h|h
  ·exact⟨p,by simp,.inl h⟩
  ·exact⟨p,by simp,.inr h⟩
  ·obtain⟨q,h1,h2⟩:=sn h
   exact⟨q,List.mem_cons_of_mem _ h1,h2⟩
theorem dD: ∀n,(eS ops n).length=n
 |0=>rfl
 |n+1=>by simp[eS,dD n]
theorem wt {n i:Nat}(h:i<n):(eS ops (n+1)).getD i []=(eS ops n).getD i []:=by
 simp only[eS,List.getD_eq_getElem?_getD]
 rw[List.getElem?_append_left (by rw[dD];exact h)]
def Ar (ops:Array Oper)(U:Nat→Prop):Prop:= ∀i,U i→ ∀p∈iF ops i,U p
theorem pZ {U:Nat→Prop}(hU:Ar ops U): ∀{n i j:Nat},i<n→j∈(eS ops n).getD i []→U i→U j∧True
 |0,i,j,hi,_,_=>by omega
 |n+1,i,j,hi,hj,hui=>by
  rcases Nat.lt_or_ge i n with h1|h1
  ·rw[wt h1]at hj
   exact pZ hU h1 hj hui
  ·have:i=n:=by omega
   subst this
   simp only[eS,List.getD_eq_getElem?_getD]at hj
   rw[List.getElem?_append_right (by rw[dD];exact Nat.le_refl _),dD]at hj
   simp only[Nat.sub_self,List.getElem?_cons_zero,Option.getD_some]at hj
   obtain⟨p,hp,h2⟩:=sn hj
   have hup:=hU i hui p hp
   rcases h2 with rfl|h2
   ·exact⟨hup,trivial⟩
   ·rcases Nat.lt_or_ge p i with h3|h3
    ·exact pZ hU h3 h2 hup
    ·rw[List.getD_eq_getElem?_getD,List.getElem?_eq_none (by rw[dD];exact h3)]at h2
     simp at h2
theorem GU {U:Nat→Prop}(hU:Ar ops U){n i j:Nat}(hi:i<n)(hp: ∀p∈iF ops i,U p)(hj:j∈(eS ops n).getD i []):U j:=by
 induction n with
 |zero=>omega
 |succ n ih=>
  rcases Nat.lt_or_ge i n with h1|h1
  ·rw[wt h1]at hj
   exact ih h1 hj
  ·have:i=n:=by omega
   subst this
   simp only[eS,List.getD_eq_getElem?_getD]at hj
   rw[List.getElem?_append_right (by rw[dD];exact Nat.le_refl _),dD]at hj
   simp only[Nat.sub_self,List.getElem?_cons_zero,Option.getD_some]at hj
   obtain⟨p,hpp,h2⟩:=sn hj
   have hup:=hp p hpp
   rcases h2 with rfl|h2
   ·exact hup
   ·rcases Nat.lt_or_ge p i with h3|h3
    ·exact(pZ hU h3 h2 hup).1
    ·rw[List.getD_eq_getElem?_getD,List.getElem?_eq_none (by rw[dD];exact h3)]at h2
     simp at h2
theorem zd {i p:Nat}{o:Oper}(ho:ops[i]? =some o):p∈iF ops i↔ ∃e∈o.after,Region.binds .any e=true∧e.on=p:=by
 simp only[iF,ho,List.mem_map,List.mem_filter,Array.mem_toList_iff]
 constructor
 ·rintro⟨e,⟨h1,h2⟩,h3⟩;exact⟨e,h1,h2,h3⟩
 ·rintro⟨e,h1,h2,h3⟩;exact⟨e,⟨h1,h2⟩,h3⟩
variable {W0:World}{L:Nat}{r:α}{Q:Exit→Act→World→Prop}
theorem Er (hrho:ew P W0 ρ){i:Nat}(hf:jj (H.op rg i)=true){G:Gh}{w:World}{s s':S}{μ μ':Mu}{a:Act}{n:Nat}{ds:Keep}(hlt: ∀(i:Nat) (o:Oper),ops[i]? =some o→ ∀d,o.dst=some d→d<n∧ds.lets d)
  (hkn:Kn W0 w (az G w s μ a.tmps)) (hds:ds.at a) (h:jg P ρ H rg ops i s μ=some (s',μ')) (R:Rel G L s μ a.tmps w) (hn:a.tmps.size=n) {K:Act→World→Prop}
  (hK: ∀a' w' G',Rel G' L s' μ' a'.tmps w'→Ext L (az G w s μ a.tmps) G w G' w' (az G' w' s' μ' a'.tmps)→a'.tmps.size=n→ds.at a'→K a' w'):wpOp P ops Q i K a w:=by
 unfold wpOp
 simp only[jg]at h
 cases ho:ops[i]? with
 |none=>rw[ho]at h;cases h
 |some o=>
  rw[ho]at h
  simp only at h ⊢
  have hlt': ∀d,o.dst=some d→d<a.tmps.size:=fun d hd=>by rw[hn];exact(hlt i o ho d hd).1
  have hlt2: ∀(i:Nat) (o:Oper),ops[i]? =some o→ ∀d,o.dst=some d→d<a.tmps.size:=fun i o ho d hd=>by rw[hn];exact(hlt i o ho d hd).1
  have run:(opt (bg P ρ (H.op rg i) o s μ) fun q=>some (q.2.1.put o.dst q.1,q.2.2))=some (s',μ')→o.wp P a w K Q:=by
   intro h
   have h2:opK P ρ (H.op rg i) o s μ (fun v s μ=>some (s.put o.dst v,μ)) (fun _ _ _=>none)=some (s',μ'):=by rw[vP hf];exact h
   refine nO (L:=L) (G:=G) (r:=(s',μ')) (k:=fun v s μ=>some (s.put o.dst v,μ)) (p:=fun _ _ _=>none) R hlt' ?_ ?_ hrho hkn h2
   ·intro v s1 μ1 cv w' G' he R' E'
    simp only[Option.some.injEq,Prod.mk.injEq]at he
    obtain⟨rfl,rfl⟩:=he
    exact hK _ w' G' R' E' (by rw[(jk a o.dst cv).1];exact hn) (Keep.put hds fun d hd=>(hlt i o ho d hd).2)
   ·intro v s1 μ1 pv w' G' he
    cases he
  cases hg:o.guard with
  |none=>
   rw[hg]at h
   have hw:Region.wanted o (yielded ops a.tmps)=true:=by simp[Region.wanted,hg]
   rw[if_pos hw]
   exact .inl (run h)
  |some g=>
   rw[hg]at h
   simp only at h
   obtain⟨d,hd,h⟩:=ab.1 h
   obtain⟨b,hb,h⟩:=ab.1 h
   have hy:yielded ops a.tmps g.1=b:=by
    cases b with
    |none=>exact td R hd hlt2 hb
    |some b=>exact xI R hd hlt2 (lX hb)
   obtain⟨j,want⟩:=g
   simp only at hd hy h
   split at h
   ·rename_i hbw
    have hw:Region.wanted o (yielded ops a.tmps)=true:=by
     have:b=some want:=by simpa using hbw
     subst this
     simp[Region.wanted,hg,hy]
    rw[if_pos hw]
    exact .inl (run h)
   ·rename_i hbw
    have hw: ¬Region.wanted o (yielded ops a.tmps)=true:=by
     have: ¬b=some want:=by simpa using hbw
     simp[Region.wanted,hg,hy,this]
    rw[if_neg hw]
    simp only[Option.some.injEq,Prod.mk.injEq]at h
    obtain⟨rfl,rfl⟩:=h
    obtain⟨R2,E2⟩:=R.skip o.dst hlt'
    exact hK _ w G R2 E2 (by rw[(jk a o.dst undef).1];exact hn) (Keep.put hds fun d hd=>(hlt i o ho d hd).2)
theorem J6 (hrho:ew P W0 ρ)(hdr:Bo H rg ops=true){T:Nat→Prop}{G0:Gh}{w0:World}{n:Nat}{ds:Keep}{k:S→Mu→Option α}(hlt: ∀(i:Nat) (o:Oper),ops[i]? =some o→ ∀d,o.dst=some d→d<n∧ds.lets d)
  (hkn:Kn W0 w0 T) (hk:Gw L G0 w0 T n ds k r Q): ∀(fuel:Nat) {l:List Nat} {listed:Array Bool} {G:Gh} {w:World} {s:S} {μ:Mu} {a:Act},
  l.length≤fuel→listed.size=ops.size→l.Pairwise (· < ·)→(∀i,i∈l↔i<ops.size∧listed.getD i true=false)→Ar ops (fun i=>listed.getD i false=true)→
  (opt (nk P ρ H rg ops l s μ) fun q=>k q.1 q.2)=some r→Rel G L s μ a.tmps w→Ext L T G0 w0 G w (az G w s μ a.tmps)→a.tmps.size=n→ds.at a→
  wpAny P .any ops Q fuel listed a w:=by
 have hok: ∀i,i<ops.size→(∀p∈iF ops i,p<i)∧jj (H.op rg i)=true∧ ∀j,j<i→j∈(eS ops ops.size).getD i []∨tz H rg ops j i=true:=by
  intro i hi
  have:=pW hdr i hi
  simp only[Bool.and_eq_true]at this
  obtain⟨⟨h1,h2⟩,h3⟩:=this
  refine⟨FL h1,h2,fun j hj=> ?_⟩
  have:=pW h3 j hj
  simp only[Bool.or_eq_true]at this
  exact this.imp ji.1 id
 have hnil: ∀{l:List Nat} {listed:Array Bool} {G:Gh} {w:World} {s:S} {μ:Mu} {a:Act},l=[]→(opt (nk P ρ H rg ops l s μ) fun q=>k q.1 q.2)=some r→Rel G L s μ a.tmps w→Ext L T G0 w0 G w (az G w s μ a.tmps)→a.tmps.size=n→ds.at a→Q .normal a w:=by
  intro l listed G w s μ a hl h R E hn hds
  subst hl
  simp only[nk,bu]at h
  exact hk s μ a w G h R E hn hds
 have hready: ∀{l:List Nat} {listed:Array Bool},listed.size=ops.size→l.Pairwise (· < ·)→(∀i,i∈l↔i<ops.size∧listed.getD i true=false)→Region.ready .any ops listed=[]→l=[]:=by
  intro l listed hsz hp hl hr
  cases l with
  |nil=>rfl
  |cons m rest=>
   exfalso
   rw[List.pairwise_cons]at hp
   obtain⟨hm1,hm2⟩:=(hl m).1 (by simp)
   have:m∈Region.ready .any ops listed:=by
    refine mem_ready.2 ⟨?_,ops[m],by simp[hm1],fun e he hb=> ?_⟩
    ·simp[Array.getD_eq_getD_getElem?,hsz,hm1]at hm2 ⊢; exact hm2
    ·have hpm:e.on∈iF ops m:=(zd (o:=ops[m]) (by simp[hm1])).2 ⟨e,he,hb,rfl⟩
     have hlt:=(hok m hm1).1 _ hpm
     by_cases hle:listed.getD e.on true=false
     ·have:=(hl e.on).2 ⟨by omega,hle⟩
      rcases List.mem_cons.1 this with h|h
      ·omega
      ·have:=hp.1 _ h;omega
     ·have hlt2:e.on<listed.size:=by omega
      simp[Array.getD_eq_getD_getElem?,hlt2]at hle ⊢; exact hle
   rw[hr]at this
   cases this
 intro fuel
 induction fuel with
 |zero=>
  intro l listed G w s μ a hf hsz hp hl hcl h R E hn hds
  have:l=[]:=List.length_eq_zero_iff.1 (by omega)
  refine⟨?_,hnil (listed:=listed) this h R E hn hds⟩
  cases hr:Region.ready .any ops listed with
  |nil=>rfl
  |cons m rest=>
   exfalso
   have hm:m∈Region.ready .any ops listed:=by rw[hr];simp
   obtain⟨h1,o,ho,_⟩:=mem_ready.1 hm
   have hlt:m<ops.size:=(Array.getElem?_eq_some_iff.1 ho).1
   have:=(hl m).2 ⟨hlt,by simp[Array.getD_eq_getD_getElem?,hsz,hlt]at h1 ⊢; exact h1⟩
   subst l
   simp at this
 |succ fuel ih=>
  intro l listed G w s μ a hf hsz hp hl hcl h R E hn hds
  refine⟨fun hr=>hnil (listed:=listed) (hready hsz hp hl hr) h R E hn hds,fun i hi=> ?_⟩
  obtain⟨h1,o,ho,hall⟩:=mem_ready.1 hi
  have hlti:i<ops.size:=(Array.getElem?_eq_some_iff.1 ho).1
  have hun:listed.getD i true=false:=by simp[Array.getD_eq_getD_getElem?,hsz,hlti]at h1 ⊢; exact h1
  have hil:i∈l:=(hl i).2 ⟨hlti,hun⟩
  have hpl: ∀p∈iF ops i,listed.getD p false=true:=by
   intro p hp
   obtain⟨e,he,hb,rfl⟩:=(zd ho).1 hp
   exact hall e he hb
  obtain⟨out,h2,h3⟩:=ab.1 h
  have hind: ∀j∈l,j<i→tz H rg ops j i=true:=by
   intro j hj hji
   rcases(hok i hlti).2.2 j hji with hanc|hx
   ·exfalso
    have hu:=GU hcl hlti hpl hanc
    obtain⟨hj1,hj2⟩:=(hl j).1 hj
    have hj3:j<listed.size:=by omega
    simp[Array.getD_eq_getD_getElem?,hj3]at hu hj2
    rw[hu]at hj2
    cases hj2
   ·exact hx
  obtain⟨⟨s1,μ1⟩,k1,k2⟩:=PA hp hil hind h2
  refine Er hrho (hok i hlti).2.1 hlt (hkn.ext E) hds k1 R hn fun a' w' G' R' E' hn' hd'=> ?_
  refine ih (l:=l.erase i) ?_ (by simp[hsz]) (hp.sublist List.erase_sublist) (fun j=> ?_) ?_ (ab.2 ⟨out,k2,h3⟩) R' (E.trans E') hn' hd'
  ·rw[List.length_erase_of_mem hil];omega
  ·have hnd:l.Nodup:=hp.imp fun h=>Nat.ne_of_lt h
   rw[hnd.mem_erase_iff,hl]
   constructor
   ·rintro⟨h1,h2,h3⟩
    exact⟨h2,by rw[getD_set_ne true (Ne.symm h1)];exact h3⟩
   ·rintro⟨h2,h3⟩
    by_cases hji:j=i
    ·subst hji
     simp[Array.getD_eq_getD_getElem?,Array.getElem?_setIfInBounds,hsz,hlti]at h3
    ·exact⟨hji,h2,by rw[getD_set_ne true (Ne.symm hji)]at h3;exact h3⟩
  ·intro j hj p hp
   by_cases hji:j=i
   ·subst hji
    exact getD_set_true (hpl p hp)
   ·rw[getD_set_ne false (Ne.symm hji)]at hj
    exact getD_set_true (hcl j hj p hp)
theorem C6 (hrho:ew P W0 ρ)(hm:P.follows .mixedOrders=true)(hdr:Bo H rg ops=true){T:Nat→Prop}{G0 G:Gh}{w0 w:World}{n:Nat}{ds:Keep}{s:S}{μ:Mu}{a:Act}{k:S→Mu→Option α}{id:Nat}
  (hlt: ∀(i:Nat) (o:Oper),ops[i]? =some o→ ∀d,o.dst=some d→d<n∧ds.lets d) (hkn:Kn W0 w0 T) (hk:Gw L G0 w0 T n ds k r Q)
  (h:eM P ρ H rg ops (List.range ops.size) s μ k (fun _ _ _=>none)=some r) (R:Rel G L s μ a.tmps w) (E:Ext L T G0 w0 G w (az G w s μ a.tmps)) (hn:a.tmps.size=n) (hds:ds.at a):
  (Code.region id ops true).wp P Q a w:=by
 refine wp_region_any hm ?_
 rw [Cg fun i hi => by
  have:=pW hdr i (by simpa using hi)
  simp only[Bool.and_eq_true]at this
  exact this.1.2]at h
 obtain⟨R',hO⟩:=R.drew
 refine J6 (L:=L) (w:=w.drew) hrho hdr hlt hkn hk ops.size (by simp) (by simp) List.pairwise_lt_range (fun i=> ?_) (fun i hi=> ?_) h R' (E.trans ⟨⟨fun _ _ _ h hb=>⟨h,hb⟩,fun _ _ h=>⟨h,rfl,rfl⟩,fun _ _ _ h hc=>⟨h,hc⟩,fun b cur e fz h=>⟨cur,fz,h,rfl⟩⟩,rfl,rfl,rfl,Nat.le_refl _,fun _ _ _=>⟨rfl,rfl⟩,fun b hb=> .inl ?_,fun _ _=>⟨fun _=>⟨rfl,rfl⟩,rfl⟩⟩) hn hds
 ·simp only[List.mem_range]
  constructor
  ·intro h;exact⟨h,by simp[Array.getD_eq_getD_getElem?,h]⟩
  ·exact fun h=>h.1
 ·exfalso
  simp only[Array.getD_eq_getD_getElem?]at hi
  rcases Nat.lt_or_ge i ops.size with h1|h1
  ·simp[h1]at hi
  ·simp[h1]at hi
 ·rcases hb with⟨l,hb⟩|hb
  ·exact .inl ⟨l,hO l b hb⟩
  ·exact .inr hb
end
end Go.Abs
set_option linter.unusedVariables false
set_option linter.unusedSimpArgs false
namespace Go.Abs
open Go
theorem lj (l:Lam): ∀(n:Nat) (todo acc:List Nat),acc.Nodup→(nT l n todo acc).Nodup
 |0,_,acc,h=>by simpa[nT]using h
 |n+1,[],acc,h=>by simpa[nT]using h
 |n+1,i::todo,acc,h=>by
  simp only[nT]
  split
  ·exact lj l n todo acc h
  ·rename_i hm
   have hni:i ∉ acc:=fun hi=>by rw[ji.2 hi]at hm;cases hm
   have h2:(acc++[i]).Nodup:=by
    rw[List.nodup_append]
    refine⟨h,by simp,fun a ha b hb=> ?_⟩
    simp only[List.mem_singleton]at hb
    subst hb
    exact fun e=>hni (e▸ha)
   split
   ·exact lj l n _ _ h2
   ·exact lj l n _ _ h2
theorem jW: ∀{m:List Nat} {n i j:Nat},nK m n i=some j→n≤j∧m[j-n]? =some i
 |[],n,i,j,h=>by simp[nK]at h
 |a::r,n,i,j,h=>by
  simp only[nK]at h
  split at h
  ·rename_i e
   simp only[Option.some.injEq]at h
   subst h
   have:=Nat.eq_of_beq_eq_true e
   subst this
   simp
  ·obtain⟨h1,h2⟩:=jW h
   refine⟨by omega,?_⟩
   rw[show j-n=(j-(n+1))+1 by omega]
   simpa using h2
def Gh.order (G:Gh)(L:Nat)(m:List Nat):Gh where
 O:=G.O
 β:=fun l j=>if l=L then G.β L (m.getD j 0)else G.β l j
 n:=G.n
 sz:=fun l j=>if l=L then G.sz L (m.getD j 0)else G.sz l j
section
variable {G:Gh}{w:World}{L:Nat}{μ:Mu}{tm:Array Value}{s:S}
theorem Rel.refr (R:Rel G L s μ tm w){fr':Fr}(hf: ∀t,LVR G w L s.lam.length (fr' t) (tm.getD t undef)∧ ∀b,aE (fr' t) (tm.getD t undef) b→aE (s.fr t) (tm.getD t undef) b):
  Rel G L {s with fr:=fr'} μ tm w∧(∀l b,ax G w fr' tm (μ++[s.lam]) l b→ax G w s.fr tm (μ++[s.lam]) l b):=by
 have hown: ∀l b,ax G w fr' tm (μ++[s.lam]) l b→ax G w s.fr tm (μ++[s.lam]) l b:=by
  intro l b h
  cases l with
  |fr t=>exact(hf t).2 b h
  |ob lev i k=>exact h
 exact⟨⟨R.lev,fun t=>(hf t).1,R.lam,R.mu,R.inj,fun l l' b h h'=>R.own l l' b (hown l b h) (hown l' b h'),fun l b lev i h h'=>R.apart l b lev i (hown l b h) h',R.nlt,R.nL,R.ngt⟩,hown⟩
theorem uF (m:List Nat)(h0:G.n L=0):Le G w (G.order L m) w:=by
 refine⟨fun _ _ _ h hb=>⟨h,hb⟩,fun lev i h=> ?_,fun _ _ _ h hc=>⟨h,hc⟩,fun b cur e fz h=>⟨cur,fz,h,rfl⟩⟩
 have hne:lev≠L:=fun e=>by subst e;omega
 simp only[Gh.order,hne,if_false,and_self,and_true]
 exact h
mutual
theorem kf {m:List Nat}{nl:Nat}(h0:G.n L=0): ∀{x y:LV} {v:Value},eq m x=some y→LVR G w L nl x v→LVR (G.order L m) w L m.length y v∧(∀b,aE y v b↔aE x v b)∧(nM x=false→nM y=false)
 | .cv c,y,v,hr,h=>by
  simp only[eq,Option.some.injEq]at hr
  subst hr
  refine⟨?_,fun b=>Iff.rfl,fun _=>by simp⟩
  simp only[LVR]at h ⊢
  exact bm (uF m h0) c v h
 | .osl xs,y,v,hr,h=>by
  simp only[eq,Option.some.injEq]at hr
  subst hr
  refine⟨?_,fun b=>Iff.rfl,fun h=>h⟩
  simp only[LVR]at h ⊢
  exact jN (uF m h0) (fun _ _ _ _=>⟨rfl,rfl⟩) h
 | .ost xs,y,v,hr,h=>by
  simp only[eq,Option.some.injEq]at hr
  subst hr
  refine⟨?_,fun b=>Iff.rfl,fun h=>h⟩
  simp only[LVR]at h ⊢
  exact rc (fun _ _ _ _=>⟨rfl,rfl⟩) h
 | .stl n,y,v,hr,h=>by
  simp only[eq,Option.some.injEq]at hr
  subst hr
  exact⟨by simpa[LVR]using h,fun b=>Iff.rfl,fun h=>h⟩
 | .loc i off,y,v,hr,h=>by
  simp only[eq]at hr
  obtain⟨j,hj,hr⟩:=ab.1 hr
  simp only[Option.some.injEq]at hr
  subst hr
  obtain⟨_,hm⟩:=jW hj
  simp only[Nat.sub_zero]at hm
  have hlt:j<m.length:=(List.getElem?_eq_some_iff.1 hm).1
  have hgd:m.getD j 0=i:=by rw[List.getD_eq_getElem?_getD,hm];rfl
  simp only[LVR]at h ⊢
  exact⟨⟨hlt,by simp only[Gh.order,if_true,hgd];exact h.2⟩,fun b=>by simp[aE],fun _=>by simp⟩
 | .lsl i off len,y,v,hr,h=>by
  simp only[eq]at hr
  obtain⟨j,hj,hr⟩:=ab.1 hr
  simp only[Option.some.injEq]at hr
  subst hr
  obtain⟨_,hm⟩:=jW hj
  simp only[Nat.sub_zero]at hm
  have hlt:j<m.length:=(List.getElem?_eq_some_iff.1 hm).1
  have hgd:m.getD j 0=i:=by rw[List.getD_eq_getElem?_getD,hm];rfl
  simp only[LVR]at h ⊢
  refine⟨⟨hlt,?_⟩,fun b=>by simp[aE],fun _=>by simp⟩
  simp only[Gh.order,if_true,hgd]
  exact h.2
 | .lclo f caps,y,v,hr,h=>by
  simp only[eq]at hr
  obtain⟨l,hl,hr⟩:=ab.1 hr
  simp only[Option.some.injEq]at hr
  subst hr
  simp only[LVR]at h ⊢
  obtain⟨vs,e,hv⟩:=h
  exact⟨⟨vs,e,oq h0 hl hv⟩,fun b=>by simp[aE],fun _=>by simp⟩
 | .ltup xs,y,v,hr,h=>by
  simp only[eq]at hr
  obtain⟨l,hl,hr⟩:=ab.1 hr
  simp only[Option.some.injEq]at hr
  subst hr
  simp only[LVR]at h ⊢
  obtain⟨vs,e,hv⟩:=h
  exact⟨⟨vs,e,oq h0 hl hv⟩,fun b=>by simp[aE],fun _=>by simp⟩
 | .mloc i,y,v,hr,h=>by
  simp only[eq]at hr
  obtain⟨j,hj,hr⟩:=ab.1 hr
  simp only[Option.some.injEq]at hr
  subst hr
  obtain⟨_,hm⟩:=jW hj
  simp only[Nat.sub_zero]at hm
  have hlt:j<m.length:=(List.getElem?_eq_some_iff.1 hm).1
  have hgd:m.getD j 0=i:=by rw[List.getD_eq_getElem?_getD,hm];rfl
  simp only[LVR]at h ⊢
  exact⟨⟨hlt,by simp only[Gh.order,if_true,hgd];exact h.2⟩,fun b=>by simp[aE],fun _=>by simp⟩
 | .tloc i t n,y,v,hr,h=>by
  simp only[eq]at hr
  obtain⟨j,hj,hr⟩:=ab.1 hr
  simp only[Option.some.injEq]at hr
  subst hr
  obtain⟨_,hm⟩:=jW hj
  simp only[Nat.sub_zero]at hm
  have hlt:j<m.length:=(List.getElem?_eq_some_iff.1 hm).1
  have hgd:m.getD j 0=i:=by rw[List.getD_eq_getElem?_getD,hm];rfl
  simp only[LVR]at h ⊢
  exact⟨⟨hlt,by simp only[Gh.order,if_true,hgd];exact h.2⟩,fun b=>by simp[aE],fun _=>by simp⟩
theorem oq {m:List Nat}{nl:Nat}(h0:G.n L=0): ∀{xs ys:List LV} {vs:List Value},ee m xs=some ys→bV G w L nl xs vs→bV (G.order L m) w L m.length ys vs
 |[],ys,vs,hr,h=>by
  simp only[ee,Option.some.injEq]at hr
  subst hr
  simpa[bV]using h
 |x::xs,ys,vs,hr,h=>by
  simp only[ee]at hr
  obtain⟨y,h1,hr⟩:=ab.1 hr
  obtain⟨l,h2,hr⟩:=ab.1 hr
  simp only[Option.some.injEq]at hr
  subst hr
  simp only[bV]at h ⊢
  obtain⟨v,vr,e,h3,h4,h5⟩:=h
  obtain⟨k1,k2,k3⟩:=kf h0 h1 h4
  exact⟨v,vr,e,k3 h3,k1,oq h0 h2 h5⟩
end
theorem oo {m:List Nat}: ∀{xs ys:List LV},ee m xs=some ys→ys.length=xs.length∧ ∀(j:Nat) y,ys[j]? =some y→ ∃x,xs[j]? =some x∧eq m x=some y
 |[],ys,h=>by simp only[ee,Option.some.injEq]at h;subst h;exact⟨rfl,fun j y hy=>by simp at hy⟩
 |x::xs,ys,h=>by
  simp only[ee]at h
  obtain⟨y,h1,h⟩:=ab.1 h
  obtain⟨r,h2,h⟩:=ab.1 h
  simp only[Option.some.injEq]at h
  subst h
  obtain⟨h3,h4⟩:=oo h2
  refine⟨by simp[h3],fun j z hz=> ?_⟩
  cases j with
  |zero=>simp only[List.getElem?_cons_zero,Option.some.injEq]at hz;subst hz;exact⟨x,rfl,h1⟩
  |succ j=>exact h4 j z (by simpa using hz)
inductive ObRen (m:List Nat):Ob→Ob→Prop where
 |dead:ObRen m .dead .dead
 |arr {sz cs}:ObRen m (.arr sz cs) (.arr sz cs)
 |map {ks vs}:ObRen m (.map ks vs) (.map ks vs)
 |cells {cs ds}:ee m cs=some ds→ObRen m (.cells cs) (.cells ds)
theorem gy {m:List Nat}: ∀{l l':List Ob},dX m l=some l'→l'.length=l.length∧ ∀i,ObRen m (aH l i) (aH l' i)
 |[],l',h=>by simp only[dX,Option.some.injEq]at h;subst h;exact⟨rfl,fun i=>by simp only[aH,List.getElem?_nil];exact .dead⟩
 | .dead::l,l',h=>by
  simp only[dX]at h
  obtain⟨r,h1,h⟩:=ab.1 h
  simp only[Option.some.injEq]at h
  subst h
  obtain⟨h2,h3⟩:=gy h1
  refine⟨by simp[h2],fun i=> ?_⟩
  cases i with
  |zero=>exact .dead
  |succ i=>exact h3 i
 | .arr sz cs::l,l',h=>by
  simp only[dX]at h
  obtain⟨r,h1,h⟩:=ab.1 h
  simp only[Option.some.injEq]at h
  subst h
  obtain⟨h2,h3⟩:=gy h1
  refine⟨by simp[h2],fun i=> ?_⟩
  cases i with
  |zero=>exact .arr
  |succ i=>exact h3 i
 | .map ks vs::l,l',h=>by
  simp only[dX]at h
  obtain⟨r,h1,h⟩:=ab.1 h
  simp only[Option.some.injEq]at h
  subst h
  obtain⟨h2,h3⟩:=gy h1
  refine⟨by simp[h2],fun i=> ?_⟩
  cases i with
  |zero=>exact .map
  |succ i=>exact h3 i
 | .cells cs::l,l',h=>by
  simp only[dX]at h
  obtain⟨ds,h0,h⟩:=ab.1 h
  obtain⟨r,h1,h⟩:=ab.1 h
  simp only[Option.some.injEq]at h
  subst h
  obtain⟨h2,h3⟩:=gy h1
  refine⟨by simp[h2],fun i=> ?_⟩
  cases i with
  |zero=>exact .cells h0
  |succ i=>exact h3 i
theorem ObRen.live {m:List Nat}{o o':Ob}(h:ObRen m o o'):aK o'↔aK o:=by cases h<;>exact Iff.rfl
theorem Lx {m:List Nat}{l:Lam}{j:Nat}(h:aK (aH (m.map (aH l)) j)):j<m.length∧aH (m.map (aH l)) j=aH l (m.getD j 0):=by
 have hj:=m9 h
 simp only[List.length_map]at hj
 refine⟨hj,?_⟩
 have e:(m.map (aH l))[j]? =some (aH l (m.getD j 0)):=by
  rw[List.getElem?_map,List.getElem?_eq_getElem hj,List.getD_eq_getElem?_getD,List.getElem?_eq_getElem hj]
  rfl
 simp only[aH,e]
theorem Rel.reorder (R:Rel G L s μ tm w)(hp:s.pushed=false){m:List Nat}(hm:m.Nodup){fr':Fr}{l':Lam}(hf: ∀t,eq m (s.fr t)=some (fr' t))(hl:dX m (m.map (aH s.lam))=some l'):
  Rel (G.order L m) L {fr:=fr',lam:=l',pushed:=false} μ tm w∧Ext L (az G w s μ tm) G w (G.order L m) w (az (G.order L m) w {fr:=fr',lam:=l',pushed:=false} μ tm):=by
 have hμ:=R.lev
 have h0:G.n L=0:=by have:=R.nL;rw[hp]at this;simpa using this
 have hle:Le G w (G.order L m) w:=uF m h0
 obtain⟨hll,hlg⟩:=gy hl
 have hll':l'.length=m.length:=by rw[hll];simp
 have eL: ∀i,aD (μ++[s.lam]) L i=aH s.lam i:=fun i=>by rw[←hμ];exact bZ
 have eL': ∀i,aD (μ++[l']) L i=aH l' i:=fun i=>by rw[←hμ];exact bZ
 have hβ: ∀lev i,lev≠L→(G.order L m).β lev i=G.β lev i:=fun lev i h=>by simp[Gh.order,h]
 have hβL: ∀j,(G.order L m).β L j=G.β L (m.getD j 0):=fun j=>by simp[Gh.order]
 have hlv: ∀j,aK (aH l' j)→j<m.length∧aK (aH s.lam (m.getD j 0))∧ObRen m (aH s.lam (m.getD j 0)) (aH l' j):=by
  intro j h
  have h1:=(hlg j).live.1 h
  obtain⟨h2,h3⟩:=Lx h1
  have h4:=hlg j
  rw[h3]at h1 h4
  exact⟨h2,h1,h4⟩
 have hlive: ∀lev i,aK (aD (μ++[l']) lev i)→(lev<L∧aD (μ++[l']) lev i=aD (μ++[s.lam]) lev i∧(G.order L m).β lev i=G.β lev i∧aK (aD (μ++[s.lam]) lev i))∨
   (lev=L∧i<m.length∧aK (aD (μ++[s.lam]) L (m.getD i 0))∧(G.order L m).β lev i=G.β L (m.getD i 0)∧ObRen m (aH s.lam (m.getD i 0)) (aH l' i)):=by
  intro lev i h
  rcases cJ (s:={fr:=fr',lam:=l',pushed:=false}) hμ h with⟨h1,h2⟩|⟨rfl,h1,h2⟩
  ·have e:aD (μ++[l']) lev i=aD (μ++[s.lam]) lev i:=by rw[aD,aD,bz (by omega),bz (by omega)]
   exact .inl ⟨h1,e,hβ lev i (by omega),by rw[←e];exact h⟩
  ·have h':aK (aH l' i):=by rw[←eL'];exact h
   obtain⟨a1,a2,a3⟩:=hlv i h'
   exact .inr ⟨rfl,a1,by rw[eL];exact a2,hβL i,a3⟩
 have hown: ∀q b,ax (G.order L m) w fr' tm (μ++[l']) q b→(∃t,q= .fr t∧ax G w s.fr tm (μ++[s.lam]) q b)∨(∃lev i k,q= .ob lev i k∧lev<L∧ax G w s.fr tm (μ++[s.lam]) q b)∨
   (∃i k,q= .ob L i k∧i<m.length∧ax G w s.fr tm (μ++[s.lam]) (.ob L (m.getD i 0) k) b):=by
  intro q b h
  cases q with
  |fr t=>exact .inl ⟨t,rfl,((kf h0 (hf t) (R.fr t)).2.1 b).1 h⟩
  |ob lev i k=>
   have hl':=fI h
   rcases hlive lev i hl' with⟨h1,h2,h3,_⟩|⟨rfl,h1,h2,h3,h4⟩
   ·exact .inr (.inl ⟨lev,i,k,rfl,h1,ii (fr':=fr') (tm':=tm) h2 h3 rfl h⟩)
   ·refine .inr (.inr ⟨i,k,rfl,h1,?_⟩)
    simp only[ax,eL',h3]at h
    split at h<;>try(exact h.elim)
    rename_i ds hds
    split at h<;>try(exact h.elim)
    rename_i y hy
    obtain⟨cur,e',fz,hb,ho⟩:=h
    rw[hds]at h4
    generalize hq:aH s.lam (m.getD i 0)=q at h4
    cases h4 with
    |cells hr=>
     obtain⟨_,hg⟩:=oo hr
     obtain⟨x,hx,hxy⟩:=hg k y hy
     have hob:=R.lam (m.getD i 0)
     rw[hq]at hob
     simp only[ObR]at hob
     obtain⟨cur2,e2,fz2,hb2,_,_,_,hrr⟩:=hob
     rw[hb2]at hb
     obtain⟨rfl,rfl,rfl⟩:=(Obj.cells.injEq ..).mp (Option.some.inj hb)
     simp only[ax,eL,hq,hx]
     exact⟨cur2,e2,fz2,hb2,((kf h0 hxy (hrr k x hx)).2.1 b).1 ho⟩
 have hget: ∀{i j:Nat},i<m.length→j<m.length→m.getD i 0=m.getD j 0→i=j:=by
  intro i j hi hj e
  rw[List.getD_eq_getElem?_getD,List.getD_eq_getElem?_getD,List.getElem?_eq_getElem hi,List.getElem?_eq_getElem hj]at e
  exact(List.getElem_inj hm).1 (by simpa using e)
 have hsz: ∀j,(G.order L m).sz L j=G.sz L (m.getD j 0):=fun j=>by simp[Gh.order]
 refine⟨⟨hμ,fun t=> ?_,fun i=> ?_,fun lev i hlt=> ?_,fun lev i lev' i' h h' e=> ?_,fun q q' b h h'=> ?_,fun q b lev i h h' e=> ?_,R.nlt,?_,R.ngt⟩,⟨hle,rfl,rfl,rfl,Nat.le_refl _,fun _ _ _=>⟨rfl,rfl⟩,fun b hb=> .inl ?_,fun l hlt=>⟨fun i=> ?_,rfl⟩⟩⟩
 ·simp only[hll']
  exact(kf h0 (hf t) (R.fr t)).1
 ·simp only[hll',hβL,hsz]
  by_cases hd:aK (aH l' i)
  ·obtain⟨_,_,hr⟩:=hlv i hd
   have hob:=R.lam (m.getD i 0)
   revert hob hr
   generalize aH s.lam (m.getD i 0)=q
   generalize aH l' i=q'
   intro hr hob
   cases hr with
   |dead=>trivial
   |arr=>
    simp only[ObR]at hob ⊢
    obtain⟨hk,cur,e,fz,h1,h2,h3,h4,h5⟩:=hob
    exact⟨hk,cur,e,fz,h1,h2,h3,h4,fun j x hx=>bm hle x _ (h5 j x hx)⟩
   |map=>
    simp only[ObR]at hob ⊢
    obtain⟨es,clk,h1,h2,h3⟩:=hob
    exact⟨es,clk,h1,h2,lr hle h3⟩
   |cells hrr=>
    obtain⟨hln,hg⟩:=oo hrr
    simp only[ObR]at hob ⊢
    obtain⟨cur,e,fz,h1,h2,h3,h4,h5⟩:=hob
    refine⟨cur,e,fz,h1,h2,h3,by rw[hln];exact h4,fun j y hy=> ?_⟩
    obtain⟨x,hx,hxy⟩:=hg j y hy
    exact(kf h0 hxy (h5 j x hx)).1
  ·generalize hq:aH l' i=q at hd
   cases q with
   |dead=>trivial
   |cells=>exact absurd trivial hd
   |arr=>exact absurd trivial hd
   |map=>exact absurd trivial hd
 ·have hne:lev≠L:=by omega
  rw[hβ lev i hne,show (G.order L m).sz lev i=G.sz lev i by simp[Gh.order,hne]]
  exact cH (hle.below lev) (Nat.le_refl _) (fun _ h=>by omega) (fun _=>⟨rfl,rfl⟩) (fun _ _ _ _ _ _ _ _ _ _ _=>⟨rfl,rfl⟩) (R.mu lev i hlt)
 ·rcases hlive lev i h with⟨h1,_,h3,h4⟩|⟨rfl,h1,h2,h3,_⟩<;>rcases hlive lev' i' h' with⟨h1',_,h3',h4'⟩|⟨rfl,h1',h2',h3',_⟩
  ·rw[h3,h3']at e;exact R.inj lev i lev' i' h4 h4' e
  ·rw[h3,h3']at e;have:=(R.inj _ _ _ _ h4 h2' e).1;omega
  ·rw[h3,h3']at e;have:=(R.inj _ _ _ _ h2 h4' e).1;omega
  ·rw[h3,h3']at e
   exact⟨rfl,hget h1 h1' (R.inj _ _ _ _ h2 h2' e).2⟩
 ·rcases hown q b h with⟨t,rfl,h1⟩|⟨lev,i,k,rfl,hlt,h1⟩|⟨i,k,rfl,hi,h1⟩<;>rcases hown q' b h' with⟨t',rfl,h1'⟩|⟨lev',i',k',rfl,hlt',h1'⟩|⟨i',k',rfl,hi',h1'⟩
  ·exact R.own _ _ b h1 h1'
  ·exact R.own _ _ b h1 h1'
  ·have:=R.own _ _ b h1 h1';cases this
  ·exact R.own _ _ b h1 h1'
  ·exact R.own _ _ b h1 h1'
  ·have:=R.own _ _ b h1 h1';injection this with a1 a2 a3;omega
  ·have:=R.own _ _ b h1 h1';cases this
  ·have:=R.own _ _ b h1 h1';injection this with a1 a2 a3;omega
  ·have:=R.own _ _ b h1 h1'
   injection this with a1 a2 a3
   rw[hget hi hi' a2,a3]
 ·have hlv': ∃lev2 i2,aK (aD (μ++[s.lam]) lev2 i2)∧G.β lev2 i2=b:=by
   rcases hlive lev i h' with⟨h1,_,h3,h4⟩|⟨rfl,h1,h2,h3,_⟩
   ·exact⟨lev,i,h4,by rw[←h3];exact e⟩
   ·exact⟨_,_,h2,by rw[←h3];exact e⟩
  obtain⟨lev2,i2,h2,e2⟩:=hlv'
  rcases hown q b h with⟨t,rfl,h1⟩|⟨lev,i,k,rfl,hlt,h1⟩|⟨i,k,rfl,hi,h1⟩
  ·exact R.apart _ b lev2 i2 h1 h2 e2
  ·exact R.apart _ b lev2 i2 h1 h2 e2
  ·exact R.apart _ b lev2 i2 h1 h2 e2
 ·simp only[Bool.false_eq_true,if_false]
  exact h0
 ·rcases hb with⟨q,hb⟩|⟨lev,i,hb,e⟩
  ·rcases hown q b hb with⟨t,rfl,h1⟩|⟨lev,i,k,rfl,hlt,h1⟩|⟨i,k,rfl,hi,h1⟩
   ·exact .inl ⟨_,h1⟩
   ·exact .inl ⟨_,h1⟩
   ·exact .inl ⟨_,h1⟩
  ·rcases hlive lev i hb with⟨h1,_,h3,h4⟩|⟨rfl,h1,h2,h3,_⟩
   ·exact .inr ⟨lev,i,h4,by rw[←h3];exact e⟩
   ·exact .inr ⟨_,_,h2,by rw[←h3];exact e⟩
 ·have hne:l≠L:=by omega
  simp[Gh.order,hne]
theorem LL {mo nl:Nat}{x y:LV}{v:Value}(h:Ae mo x=some y)(hx:LVR G w L nl x v):LVR G w L nl y v∧ ∀b,aE y v b→aE x v b:=by
 unfold Ae at h
 split at h
 ·simp only[Option.some.injEq]at h
  subst h
  exact⟨jn hx,fun b hb=>absurd hb ir⟩
 ·obtain⟨xs,h1,h2⟩:=ab.1 h
  simp only[Option.some.injEq]at h2
  subst h2
  exact iz h1 hx
 ·obtain⟨xs,h1,h2⟩:=ab.1 h
  simp only[Option.some.injEq]at h2
  subst h2
  exact wM h1 hx
 ·obtain⟨xs,h1,h2⟩:=ab.1 h
  simp only[Option.some.injEq]at h2
  subst h2
  exact⟨by simp only[LVR];exact fu h1 hx,fun b hb=>by simp[aE]at hb⟩
theorem BI {fr:Fr}: ∀{live:List (Nat×Nat)} {vs:List LV},sm fr live=some vs→ ∀t,dP (iN (live.map Prod.fst) vs) t= .cv .undef∨ ∃mo y,Ae mo (fr t)=some y∧dP (iN (live.map Prod.fst) vs) t=y
 |[],vs,h,t=>by simp only[sm,Option.some.injEq]at h;subst h;exact .inl rfl
 |q::r,vs,h,t=>by
  simp only[sm]at h
  obtain⟨v,h1,h⟩:=ab.1 h
  obtain⟨l,h2,h⟩:=ab.1 h
  simp only[Option.some.injEq]at h
  subst h
  simp only[List.map_cons,iN,dP]
  split
  ·rename_i e
   have:=Nat.eq_of_beq_eq_true e
   subst this
   exact .inr ⟨q.2,v,h1,rfl⟩
  ·exact BI h2 t
theorem xo {m:List Nat}: ∀{ts:List Nat} {vs us:List LV},ee m vs=some us→ ∀t,eq m (dP (iN ts vs) t)=some (dP (iN ts us) t)
 |[],vs,us,h,t=>by simp[iN,dP,eq]
 |u::ts,[],us,h,t=>by simp only[ee,Option.some.injEq]at h;subst h;simp[iN,dP,eq]
 |u::ts,v::vs,us,h,t=>by
  simp only[ee]at h
  obtain⟨y,h1,h⟩:=ab.1 h
  obtain⟨l,h2,h⟩:=ab.1 h
  simp only[Option.some.injEq]at h
  subst h
  simp only[iN,dP]
  split
  ·exact h1
  ·exact xo h2 t
theorem Rel.weaken (R:Rel G L s μ tm w){i:Nat}{cs cs':List LV}(ho:aH s.lam i= .cells cs)(hl:cs'.length=cs.length)
  (hc: ∀(k:Nat) x',cs'[k]? =some x'→ ∃x,cs[k]? =some x∧ ∀v,LVR G w L s.lam.length x v→LVR G w L s.lam.length x' v∧ ∀b,aE x' v b→aE x v b):
  Rel G L {s with lam:=s.lam.set i (.cells cs')} μ tm w∧Ext L (az G w s μ tm) G w G w (az G w {s with lam:=s.lam.set i (.cells cs')} μ tm):=by
 have hμ:=R.lev
 have hi:i<s.lam.length:=m9 (by rw[ho];trivial)
 have eL: ∀(l:Lam) j,aD (μ++[l]) L j=aH l j:=fun l j=>by rw[←hμ];exact bZ
 have hlam: ∀j,aH (s.lam.set i (.cells cs')) j=if j=i then .cells cs' else aH s.lam j:=by
  intro j
  simp only[aH]
  by_cases e:j=i
  ·subst e;rw[List.getElem?_set_self hi];simp
  ·rw[List.getElem?_set_ne (by omega)];simp[e]
 have hlt: ∀lev j,lev<L→aD (μ++[s.lam.set i (.cells cs')]) lev j=aD (μ++[s.lam]) lev j:=fun lev j h=>by rw[aD,aD,bz (by omega),bz (by omega)]
 have hgt: ∀(l:Lam) lev j,L<lev→aD (μ++[l]) lev j= .dead:=fun l lev j h=>by rw[aD,oW (by omega)]
 have hlive: ∀lev j,aK (aD (μ++[s.lam.set i (.cells cs')]) lev j)→aK (aD (μ++[s.lam]) lev j):=by
  intro lev j h
  rcases Nat.lt_trichotomy lev L with h1|h1|h1
  ·rw[hlt lev j h1]at h;exact h
  ·subst h1
   rw[eL,hlam]at h
   rw[eL]
   split at h
   ·rename_i e;rw[e,ho];trivial
   ·exact h
  ·rw[hgt _ lev j h1]at h;exact h.elim
 have hob:=R.lam i
 rw[ho]at hob
 simp only[ObR]at hob
 obtain⟨cur,e,fz,h1,h2,h3,h4,h5⟩:=hob
 have hown: ∀q b,ax G w s.fr tm (μ++[s.lam.set i (.cells cs')]) q b→ax G w s.fr tm (μ++[s.lam]) q b:=by
  intro q b h
  cases q with
  |fr t=>exact h
  |ob lev j k=>
   simp only[ax]at h ⊢
   rcases Nat.lt_trichotomy lev L with h6|h6|h6
   ·rw[hlt lev j h6]at h;exact h
   ·subst h6
    rw[eL,hlam]at h
    rw[eL]
    by_cases ej:j=i
    ·subst ej
     simp only[if_true]at h
     split at h<;>try(exact h.elim)
     rename_i x' hx'
     obtain⟨x,hx,hv⟩:=hc k x' hx'
     obtain⟨cur2,e2,fz2,hb2,ho2⟩:=h
     rw[h1]at hb2
     obtain⟨rfl,rfl,rfl⟩:=(Obj.cells.injEq ..).mp (Option.some.inj hb2)
     rw[ho]
     simp only[hx]
     exact⟨cur,e,fz,h1,(hv _ (h5 k x hx)).2 b ho2⟩
    ·rw[if_neg ej]at h;exact h
   ·rw[hgt _ lev j h6]at h;exact h.elim
 refine⟨⟨hμ,fun t=> ?_,fun j=> ?_,R.mu,fun lev j lev' j' h h'=>R.inj lev j lev' j' (hlive lev j h) (hlive lev' j' h'),fun q q' b h h'=>R.own q q' b (hown q b h) (hown q' b h'),fun q b lev j h h'=>R.apart q b lev j (hown q b h) (hlive lev j h'),R.nlt,?_,R.ngt⟩,Ext.refl G w fun b hb=> ?_⟩
 ·simp only[List.length_set];exact R.fr t
 ·simp only[List.length_set]
  rw[hlam]
  split
  ·rename_i ej
   subst ej
   simp only[ObR]
   refine⟨cur,e,fz,h1,h2,h3,by rw[hl];exact h4,fun k x' hx'=> ?_⟩
   obtain⟨x,hx,hv⟩:=hc k x' hx'
   exact(hv _ (h5 k x hx)).1
  ·exact R.lam j
 ·simp only[List.length_set];exact R.nL
 ·rcases hb with⟨q,hb⟩|⟨lev,j,hb,e⟩
  ·exact .inl ⟨q,hown q b hb⟩
  ·exact .inr ⟨lev,j,hlive lev j hb,e⟩
theorem rV {α:Type}{nl:Nat}: ∀{ms:List Nat} {cs:List LV} {k:List LV→Option α} {r:α},fm ms cs k=some r→
  ∃cs',k cs'=some r∧cs'.length=cs.length∧ ∀(j:Nat) x',cs'[j]? =some x'→ ∃x,cs[j]? =some x∧ ∀v,LVR G w L nl x v→LVR G w L nl x' v∧ ∀b,aE x' v b→aE x v b
 |[],cs,k,r,h=>⟨cs,h,rfl,fun j x hx=>⟨x,hx,fun v hv=>⟨hv,fun _ hb=>hb⟩⟩⟩
 |m::ms,[],k,r,h=>by simp[fm]at h
 |m::ms,c::cs,k,r,h=>by
  simp only[fm,wA]at h
  have key: ∀c',(fm ms cs fun r=>k (c'::r))=some r→(∀v,LVR G w L nl c v→LVR G w L nl c' v∧ ∀b,aE c' v b→aE c v b)→
    ∃cs',k cs'=some r∧cs'.length=(c::cs).length∧ ∀(j:Nat) x',cs'[j]? =some x'→ ∃x,(c::cs)[j]? =some x∧ ∀v,LVR G w L nl x v→LVR G w L nl x' v∧ ∀b,aE x' v b→aE x v b:=by
   intro c' h hc
   obtain⟨cs',h1,h2,h3⟩:=rV h
   refine⟨c'::cs',h1,by simp[h2],fun j x' hx'=> ?_⟩
   cases j with
   |zero=>simp only[List.getElem?_cons_zero,Option.some.injEq]at hx';subst hx';exact⟨c,rfl,hc⟩
   |succ j=>exact h3 j x' (by simpa using hx')
  split at h
  ·exact key c h fun v hv=>⟨hv,fun _ hb=>hb⟩
  ·obtain⟨xs,h1,h2⟩:=ab.1 h
   exact key _ h2 fun v hv=>iz h1 hv
  ·obtain⟨x,h1,h2⟩:=ab.1 h
   exact key _ h2 fun v hv=>⟨by simp only[LVR];exact eQ h1 hv,fun b hb=>by simp[aE]at hb⟩
  ·obtain⟨xs,h1,h2⟩:=ab.1 h
   exact key _ h2 fun v hv=>⟨by simp only[LVR];exact fu h1 hv,fun b hb=>by simp[aE]at hb⟩
theorem Rel.setPushed (R:Rel G L s μ tm w):Rel (G.push L s.lam.length) L {s with pushed:=true} μ tm w∧
  Ext L (az G w s μ tm) G w (G.push L s.lam.length) w (az (G.push L s.lam.length) w {s with pushed:=true} μ tm):=by
 have hle:Le G w (G.push L s.lam.length) w:=ko fun i h=>by
  have:=R.nL
  cases hp:s.pushed<;>simp[hp]at this<;>omega
 have hbel: ∀lev,lev<L→(G.push L s.lam.length).below lev=G.below lev:=by
  intro lev h
  simp only[Gh.below,Gh.push,Gh.mk.injEq,true_and,and_true]
  funext l
  by_cases hl:l≤lev
  ·simp only[hl,if_true]
   rw[if_neg (by omega)]
  ·simp only[hl,if_false]
 have hO: ∀q b,ax (G.push L s.lam.length) w s.fr tm (μ++[s.lam]) q b→ax G w s.fr tm (μ++[s.lam]) q b:=by
  intro q b h
  cases q<;>exact h
 refine ⟨⟨R.lev, fun t => cY hle (Nat.le_refl _) (fun i _ => ⟨rfl, rfl⟩) _ _ (fun b _ => ⟨rfl, rfl⟩) (R.fr t), fun i => ?_, fun lev i h => ?_, R.inj,
  fun q q' b h h'=>R.own q q' b (hO q b h) (hO q' b h'),fun q b lev i h h'=>R.apart q b lev i (hO q b h) h',fun lev h=> ?_,?_,fun lev h=> ?_⟩,?_⟩
 ·exact cH hle (Nat.le_refl _) (fun i _=>⟨rfl,rfl⟩) (fun _=>⟨rfl,rfl⟩) (fun _ _ _ _ _ _ _ _ _ _ _=>⟨rfl,rfl⟩) (R.lam i)
 ·rw[hbel lev h];exact R.mu lev i h
 ·simp only[Gh.push];rw[if_neg (by omega)];exact R.nlt lev h
 ·simp[Gh.push]
 ·simp only[Gh.push];rw[if_neg (by omega)];exact R.ngt lev h
 ·refine⟨hle,rfl,rfl,rfl,Nat.le_refl _,fun _ _ _=>⟨rfl,rfl⟩,fun b hb=> .inl ?_,fun l hl=>⟨fun _=>⟨rfl,rfl⟩,?_⟩⟩
  ·rcases hb with⟨q,hb⟩|hb
   ·exact .inl ⟨q,hO q b hb⟩
   ·exact .inr hb
  ·simp only[Gh.push];rw[if_neg (by omega)]
theorem kb {α:Type}: ∀{obs:List (Nat×List Nat)} {G:Gh} {s:S} {k:S→Option α} {r:α},kO obs s k=some r→Rel G L s μ tm w→
  ∃s' G',k s'=some r∧Rel G' L s' μ tm w∧Ext L (az G w s μ tm) G w G' w (az G' w s' μ tm)
 |[],G,s,k,r,h,R=>⟨s,G,h,R,Ext.refl G w fun _ hb=>hb⟩
 |q::l,G,s,k,r,h,R=>by
  simp only[kO]at h
  split at h
  ·obtain⟨R1,E1⟩:=R.setPushed
   obtain⟨s',G',h4,R2,E2⟩:=kb h R1
   exact⟨s',G',h4,R2,E1.trans E2⟩
  split at h<;>try(simp at h;done)
  rename_i cs ho
  obtain⟨cs',h1,h2,h3⟩:=rV (G:=G) (w:=w) (L:=L) (nl:=s.lam.length) h
  obtain⟨R1,E1⟩:=R.weaken ho h2 h3
  obtain⟨s',G',h4,R2,E2⟩:=kb h1 R1
  exact⟨s',G',h4,R2,E1.trans E2⟩
theorem dK {α:Type}{live:List (Nat×Nat)}{k:S→Option α}{r:α}(h:dH live s k=some r)(R:Rel G L s μ tm w):
  ∃s' G',k s'=some r∧Rel G' L s' μ tm w∧Ext L (az G w s μ tm) G w G' w (az G' w s' μ tm):=by
 unfold dH at h
 obtain⟨vs,h1,h⟩:=ab.1 h
 obtain⟨R1,hO⟩:=R.refr (fr':=dP (iN (live.map Prod.fst) vs)) fun t=>by
  rcases BI h1 t with e|⟨mo,y,h2,e⟩
  ·rw[e];exact⟨by simp[LVR,VR],fun b hb=>by simp[aE]at hb⟩
  ·rw[e];exact LL h2 (R.fr t)
 have E1:Ext L (az G w s μ tm) G w G w (az G w {s with fr:=dP (iN (live.map Prod.fst) vs)} μ tm):=Ext.refl G w fun b hb=>by
  rcases hb with⟨l,hb⟩|hb
  ·exact .inl ⟨l,hO l b hb⟩
  ·exact .inr hb
 split at h
 ·exact⟨_,G,h,R1,E1⟩
 ·rename_i hp
  obtain⟨us,h2,h⟩:=ab.1 h
  obtain⟨l,h3,h⟩:=ab.1 h
  obtain⟨R2,E2⟩:=R1.reorder hp (lj _ _ _ _ (by simp)) (xo h2) h3
  exact⟨_,_,h,R2,E1.trans E2⟩
theorem kX {x y:Bool}(h:(match x with|true=>y|false=>false)=true):x=true∧y=true:=by
 cases x<;>simp_all
theorem wF {m:Nat}:Le (G.cut L) w ((G.cut L).push L m) w:=ko fun i h=>by simp[Gh.cut]at h
theorem M5 {m:Nat}(hg: ∀lev,L<lev→G.n lev=0){c:CV}{v:Value}(hb:sZ L m c=true)(h:VR G w c v):VR ((G.cut L).push L m) w c v:=by
 have key: ∀c:CV,below L c=true→VR G w c v→VR ((G.cut L).push L m) w c v:=fun c hb h=>bm wF _ _ (dZ c v hb h)
 cases c with
 |ref lev i off=>
  simp only[VR]at h ⊢
  refine⟨?_,h.2⟩
  simp only[Gh.push,Gh.cut]
  simp only[sZ]at hb
  split at hb
  ·rename_i hl
   have hl:lev<L:=by simpa using hl
   rw[if_neg (by omega),if_pos hl]
   exact h.1
  ·rename_i hl
   have hl: ¬lev<L:=fun h=>by rw[←Nat.blt_eq]at h;rw[h]at hl;cases hl
   have:lev=L:=by
    rcases Nat.lt_or_ge L lev with h1|h1
    ·have:=hg lev h1;omega
    ·omega
   rw[if_pos this]
   simpa using hb
 |tref lev i t n=>
  simp only[VR]at h ⊢
  refine⟨?_,h.2⟩
  simp only[Gh.push,Gh.cut]
  simp only[sZ]at hb
  split at hb
  ·rename_i hl
   have hl:lev<L:=by simpa using hl
   rw[if_neg (by omega),if_pos hl]
   exact h.1
  ·rename_i hl
   have hl: ¬lev<L:=fun h=>by rw[←Nat.blt_eq]at h;rw[h]at hl;cases hl
   have:lev=L:=by
    rcases Nat.lt_or_ge L lev with h1|h1
    ·have:=hg lev h1;omega
    ·omega
   rw[if_pos this]
   simpa using hb
 |_=>exact key _ hb h
mutual
theorem ra {m nl:Nat}(hg: ∀lev,L<lev→G.n lev=0): ∀(x:LV) (v:Value),fC L m x=true→LVR G w L nl x v→LVR ((G.cut L).push L m) w L m x v
 | .cv c,v,hb,h=>by
  simp only[LVR]at h ⊢
  exact M5 hg hb h
 | .osl xs,v,hb,h=>by
  simp only[LVR]at h ⊢
  have:=yF (m:=L) hb h
  rcases this with h|⟨b,cap,cur,e,s,h1,h2,h3,h4,h5,h6,h7,h8,h9,h10⟩
  ·exact .inl h
  ·exact .inr ⟨b,cap,cur,e,s,h1,h2,h3,h4,h5,h6,h7,d6 wF b s 0 xs h8,h9,h10⟩
 | .ost xs,v,hb,h=>by
  simp only[LVR]at h ⊢
  exact h
 | .stl n,v,hb,h=>by simpa[LVR]using h
 | .loc i off,v,hb,h=>by
  simp only[LVR]at h ⊢
  exact⟨by simpa[fC]using hb,h.2⟩
 | .lsl i off len,v,hb,h=>by
  simp only[LVR]at h ⊢
  exact⟨by simpa[fC]using hb,h.2⟩
 | .mloc i,v,hb,h=>by
  simp only[LVR]at h ⊢
  exact⟨by simpa[fC]using hb,h.2⟩
 | .tloc i t n,v,hb,h=>by
  simp only[LVR]at h ⊢
  exact⟨by simpa[fC]using hb,h.2⟩
 | .lclo f caps,v,hb,h=>by
  simp only[LVR]at h ⊢
  obtain⟨vs,e,hl⟩:=h
  exact⟨vs,e,wn hg caps _ (by simpa[fC]using hb) hl⟩
 | .ltup xs,v,hb,h=>by simp[fC]at hb
theorem wn {m nl:Nat}(hg: ∀lev,L<lev→G.n lev=0): ∀(xs:List LV) (vs:List Value),e8 L m xs=true→bV G w L nl xs vs→bV ((G.cut L).push L m) w L m xs vs
 |[],vs,hb,h=>by simpa[bV]using h
 |x::xs,vs,hb,h=>by
  simp only[bV]at h ⊢
  simp only[e8]at hb
  obtain⟨hb1,hb2⟩:=kX hb
  obtain⟨v,r,e,h0,h1,h2⟩:=h
  exact⟨v,r,e,h0,ra hg x v hb1 h1,wn hg xs r hb2 h2⟩
end
theorem xG {m:Nat}: ∀{xs:List LV} {j:Nat} {x:LV},e8 L m xs=true→xs[j]? =some x→fC L m x=true
 |[],j,x,hb,h=>by simp at h
 |y::ys,j,x,hb,h=>by
  simp only[e8]at hb
  obtain⟨hb1,hb2⟩:=kX hb
  cases j with
  |zero=>simp only[List.getElem?_cons_zero,Option.some.injEq]at h;subst h;exact hb1
  |succ j=>exact xG hb2 (by simpa using h)
theorem wx {m:Nat}: ∀{xs:List CV} {j:Nat} {x:CV},bN m xs=true→xs[j]? =some x→below m x=true
 |[],j,x,hb,h=>by simp at h
 |y::ys,j,x,hb,h=>by
  obtain⟨hb1,hb2⟩:=bf hb
  cases j with
  |zero=>simp only[List.getElem?_cons_zero,Option.some.injEq]at h;subst h;exact hb1
  |succ j=>exact wx hb2 (by simpa using h)
theorem ta {m:Nat}: ∀{xs:List Ob} {j:Nat} {x:Ob},gu L m xs=true→xs[j]? =some x→pf L m x=true
 |[],j,x,hb,h=>by simp at h
 |y::ys,j,x,hb,h=>by
  simp only[gu]at hb
  obtain⟨hb1,hb2⟩:=kX hb
  cases j with
  |zero=>simp only[List.getElem?_cons_zero,Option.some.injEq]at h;subst h;exact hb1
  |succ j=>exact ta hb2 (by simpa using h)
theorem JP {m nl b sz:Nat}(hg: ∀lev,L<lev→G.n lev=0){o:Ob}(hb:pf L m o=true)(h:ObR G w L nl b sz o):ObR ((G.cut L).push L m) w L m b sz o:=by
 cases o with
 |dead=>trivial
 |cells cs=>
  simp only[ObR]at h ⊢
  obtain⟨cur,e,fz,h1,h2,h3,h4,h5⟩:=h
  exact⟨cur,e,fz,h1,h2,h3,h4,fun j x hx=>ra hg x _ (xG hb hx) (h5 j x hx)⟩
 |arr k cs=>
  simp only[ObR]at h ⊢
  obtain⟨hk,cur,e,fz,h1,h2,h3,h4,h5⟩:=h
  exact⟨hk,cur,e,fz,h1,h2,h3,h4,fun j x hx=>bm wF _ _ (dZ x _ (wx hb hx) (h5 j x hx))⟩
 |map ks vs=>
  simp only[ObR]at h ⊢
  obtain⟨es,clk,h1,h2,h3⟩:=h
  exact⟨es,clk,h1,h2,h3.1,gj wF _ _ (oE vs _ hb h3.2)⟩
theorem Rel.trunc (R:Rel G L s μ tm w)(hp:s.pushed=true){m:Nat}(hm:m≤s.lam.length)(hf: ∀t,fC L m (s.fr t)=true)(hl:gu L m (s.lam.take m)=true):
  Rel ((G.cut L).push L m) L {s with lam:=s.lam.take m} μ tm w∧(∀b,az ((G.cut L).push L m) w {s with lam:=s.lam.take m} μ tm b→az G w s μ tm b):=by
 have hμ:=R.lev
 have hlen:(s.lam.take m).length=m:=by simp;omega
 have eL: ∀(l:Lam) j,aD (μ++[l]) L j=aH l j:=fun l j=>by rw[←hμ];exact bZ
 have hlt: ∀lev j,lev<L→aD (μ++[s.lam.take m]) lev j=aD (μ++[s.lam]) lev j:=fun lev j h=>by rw[aD,aD,bz (by omega),bz (by omega)]
 have hgt: ∀(l:Lam) lev j,L<lev→aD (μ++[l]) lev j= .dead:=fun l lev j h=>by rw[aD,oW (by omega)]
 have hlam: ∀i,aH (s.lam.take m) i=if i<m then aH s.lam i else .dead:=by
  intro i
  by_cases h:i<m
  ·rw[if_pos h];simp only[aH,List.getElem?_take_of_lt h]
  ·rw[if_neg h];simp only[aH];rw[List.getElem?_take_eq_none (by omega)]
 have hat: ∀lev i,aD (μ++[s.lam.take m]) lev i=aD (μ++[s.lam]) lev i∨aD (μ++[s.lam.take m]) lev i= .dead:=by
  intro lev i
  rcases Nat.lt_trichotomy lev L with h|h|h
  ·exact .inl (hlt lev i h)
  ·subst h
   rw[eL,eL,hlam]
   split
   ·exact .inl rfl
   ·exact .inr rfl
  ·exact .inr (hgt _ lev i h)
 have hlive: ∀lev i,aK (aD (μ++[s.lam.take m]) lev i)→aK (aD (μ++[s.lam]) lev i):=by
  intro lev i h
  rcases hat lev i with e|e
  ·rw[←e];exact h
  ·rw[e]at h;exact h.elim
 have hown: ∀q b,ax ((G.cut L).push L m) w s.fr tm (μ++[s.lam.take m]) q b→ax G w s.fr tm (μ++[s.lam]) q b:=by
  intro q b h
  cases q with
  |fr t=>exact h
  |ob lev i k=>
   rcases hat lev i with e|e
   ·simp only[ax]at h ⊢
    rw[e]at h
    exact h
   ·simp only[ax,e]at h
 have hbel: ∀lev,lev<L→((G.cut L).push L m).below lev=G.below lev:=by
  intro lev h
  simp only[Gh.below,Gh.push,Gh.cut,Gh.mk.injEq,true_and,and_true]
  funext l
  by_cases hl:l≤lev
  ·simp only[hl,if_true]
   rw[if_neg (by omega),if_pos (by omega)]
  ·simp only[hl,if_false]
 refine ⟨⟨R.lev, fun t => ?_, fun i => ?_, fun lev i h => ?_, fun lev i lev' i' h h' e => R.inj lev i lev' i' (hlive _ _ h) (hlive _ _ h') e,
  fun q q' b h h'=>R.own q q' b (hown q b h) (hown q' b h'),fun q b lev i h h'=>R.apart q b lev i (hown q b h) (hlive _ _ h'),fun lev h=> ?_,?_,fun lev h=> ?_⟩,fun b hb=> ?_⟩
 ·show LVR _ w L (s.lam.take m).length _ _
  rw[hlen]
  exact ra R.ngt _ _ (hf t) (R.fr t)
 ·show ObR _ w L (s.lam.take m).length _ _ (aH (s.lam.take m) i)
  rw[hlen,hlam]
  split
  ·rename_i hi
   refine JP R.ngt (ta (j:=i) hl ?_) (R.lam i)
   rw[List.getElem?_take_of_lt hi,aH,List.getElem?_eq_getElem (by omega)]
  ·trivial
 ·rw[hbel lev h];exact R.mu lev i h
 ·simp only[Gh.push,Gh.cut];rw[if_neg (by omega),if_pos h];exact R.nlt lev h
 ·show ((G.cut L).push L m).n L=if s.pushed then(s.lam.take m).length else 0
  rw[hp,hlen];simp[Gh.push]
 ·simp only[Gh.push,Gh.cut];rw[if_neg (by omega),if_neg (by omega)]
 ·rcases hb with⟨q,hb⟩|⟨lev,i,hb,e⟩
  ·exact .inl ⟨q,hown q b hb⟩
  ·exact .inr ⟨lev,i,hlive lev i hb,e⟩
theorem xy {fr:Fr}{m:Nat}: ∀{live:List (Nat×Nat)},e8 L m (xH (fj fr live))=true→ ∀t,(dP (fj fr live) t= .cv .undef∨dP (fj fr live) t=fr t)∧fC L m (dP (fj fr live) t)=true
 |[],hb,t=>⟨.inl rfl,rfl⟩
 |q::r,hb,t=>by
  simp only[fj,xH,e8]at hb
  obtain⟨hb1,hb2⟩:=kX hb
  simp only[fj,dP]
  split
  ·rename_i e
   have:=Nat.eq_of_beq_eq_true e
   subst this
   exact⟨.inr rfl,hb1⟩
  ·exact xy hb2 t
theorem nq {α:Type}{live:List (Nat×Nat)}{k:S→Option α}{r:α}(h:i6 L live s k=some r)(R:Rel G L s μ tm w){T:Nat→Prop}{G0:Gh}{w0:World}(E:Ext L T G0 w0 G w (az G w s μ tm))(h0:G0.n L=0):
  ∃s' G',k s'=some r∧Rel G' L s' μ tm w∧Ext L T G0 w0 G' w (az G' w s' μ tm):=by
 unfold i6 at h
 split at h
 ·exact⟨s,G,h,R,E⟩
 ·rename_i m hm
  obtain⟨hc,h⟩:=aI.1 h
  simp only[Bool.and_eq_true]at hc
  obtain⟨⟨⟨hp,hlen⟩,hu⟩,ho⟩:=hc
  have hsl:=xy (fr:=s.fr) hu
  obtain⟨R1,hO⟩:=R.refr (fr':=dP (fj s.fr live)) fun t=>by
   rcases(hsl t).1 with e|e
   ·rw[e];exact⟨by simp[LVR,VR],fun b hb=>by simp[aE]at hb⟩
   ·rw[e];exact⟨R.fr t,fun _ hb=>hb⟩
  obtain⟨R2,hT⟩:=R1.trunc hp (Nat.le_of_ble_eq_true hlen) (fun t=>(hsl t).2) ho
  have e:({fr:=dP (fj s.fr live),lam:=s.lam.take m,pushed:=true}:S)={s with fr:=dP (fj s.fr live),lam:=s.lam.take m}:=by
   cases s;simp only at hp;subst hp;rfl
  rw[e]at h
  refine⟨_,_,h,R2,⟨⟨E.le.map,fun lev i hi=> ?_,E.le.imm,E.le.blk⟩,E.os,E.tape,E.output,E.size,E.keep,fun b hb=>E.grow b ?_,fun l hl=>⟨(E.lev l hl).1,?_⟩⟩⟩
  ·obtain⟨h1,h2,h3⟩:=E.le.ref lev i hi
   refine⟨?_,h2,h3⟩
   rcases Nat.lt_trichotomy lev L with hl|hl|hl
   ·simp only[Gh.push,Gh.cut];rw[if_neg (by omega),if_pos hl];exact h1
   ·subst hl;omega
   ·have:=R.ngt lev hl;omega
  ·have:=hT b hb
   rcases this with⟨q,hb⟩|hb
   ·exact .inl ⟨q,hO q b hb⟩
   ·exact .inr hb
  ·simp only[Gh.push,Gh.cut];rw[if_neg (by omega),if_pos hl];exact(E.lev l hl).2
end
end Go.Abs
set_option linter.unusedVariables false
set_option linter.unusedSimpArgs false
namespace Go.Abs
open Go
def gN (L:Nat)(T:Nat→Prop)(G:Gh)(w:World)(n:Nat)(ds:Keep)(s:S)(μ:Mu)(a:Act)(w':World)(G':Gh):Prop:=
 Rel G' L s μ a.tmps w'∧Ext L T G w G' w' (az G' w' s μ a.tmps)∧a.tmps.size=n∧ds.at a∧G.n L=0
def StR (L:Nat)(T:Nat→Prop)(G:Gh)(w:World)(n:Nat)(ds:Keep):St→Exit→Act→World→Prop
 | .norm s μ,.normal,a,w'=> ∃G',gN L T G w n ds s μ a w' G'
 | .exit i s μ,.exit j,a,w'=>i=j∧ ∃G',gN L T G w n ds s μ a w' G'
 | .ret s μ,.ret,a,w'=> ∃G',gN L T G w n ds s μ a w' G'
 | .panic v s μ,.panic ch,a,w'=> ∃G' pv,ch=[{v:=pv,recovered:=false}]∧VR G' w' v pv∧gN L T G w n ds s μ a w' G'
 |_,_,_,_=>False
def pp (P:Program)(c:Code)(Q:Exit→Act→World→Prop)(a:Act)(w:World):Prop:=
 ∀(b:Frame) (k:List Item) (cs:List Frame),∃e a' w',Q e a' w'∧Arrives P (lone (b.at a (.code c:: .inLoop c::k)) cs w) b k cs e a' w'
def kr (P:Program)(W0:World)(ρ:Rho):Prop:= ∀H lv c s μ st,ρ.loop H lv c s μ=some st→ ∀L G w a Q T G0 w0 n (ds:Keep),dE n ds.slot c=true→Kn W0 w0 T→gN L T G0 w0 n ds s μ a w G→
 (∀e a' w',StR L T G0 w0 n ds st e a' w'→Q e a' w')→pp P c Q a w
def mO (P:Program)(W0:World)(ρ:Rho):Prop:= ∀H lv c s μ st,ρ.seg H lv c s μ=some st→ ∀L G w a Q T G0 w0 n (ds:Keep),dE n ds.slot c=true→Kn W0 w0 T→gN L T G0 w0 n ds s μ a w G→
 (∀e a' w',StR L T G0 w0 n ds st e a' w'→Q e a' w')→c.wp P Q a w
section
variable {P:Program}{W0:World}{ρ:Rho}{Q:Exit→Act→World→Prop}{a:Act}{w:World}{c:Code}
theorem pp.wp (h:pp P c Q a w):(Code.loop c).wp P Q a w:=by
 intro b k cs
 obtain⟨e,a',w',hq,harr⟩:=h b k cs
 exact⟨e,a',w',hq,.of_steps (.one step_loop) harr⟩
theorem pp.unroll (h:c.wp P (Exit.then (pp P c Q) Q) a w):pp P c Q a w:=by
 intro b k cs
 obtain⟨e,a₁,w₁,hq,harr⟩:=h b (.inLoop c::k) cs
 cases e with
 |normal=>
  obtain⟨e₂,a₂,w₂,hq₂,harr₂⟩:=hq b k cs
  exact⟨e₂,a₂,w₂,hq₂,.of_steps (Steps.trans harr (.one step_inLoop)) harr₂⟩
 |exit id=>exact⟨_,a₁,w₁,hq,.pass (x:= .inLoop c) rfl (fun _ _=> .inl (by simp)) harr⟩
 |goto l=>exact⟨_,a₁,w₁,hq,.pass (x:= .inLoop c) rfl (fun _ _=> .inl (by simp)) harr⟩
 |ret=>exact⟨_,a₁,w₁,hq,.pass (x:= .inLoop c) rfl (fun _ _=> .inl (by simp)) harr⟩
 |panic ch=>exact⟨_,a₁,w₁,hq,.pass (x:= .inLoop c) rfl (fun _ _=> .inl (by simp)) harr⟩
 |outgrown=>exact⟨_,a₁,w₁,hq,.pass (x:= .inLoop c) rfl (fun _ _=> .inl (by simp)) harr⟩
theorem dx (hm:P.follows .mixedOrders=true)(hrho:ew P W0 ρ)(hloop:kr P W0 ρ)(hseg:mO P W0 ρ){H:Hints}: ∀(c:Code) {α:Type} {k:St→Option α} {r:α} {Q:Exit→Act→World→Prop} {L:Nat} {T:Nat→Prop} {G0 G:Gh} {w0 w:World} {n:Nat} {ds:Keep} {s:S} {μ:Mu} {a:Act},
  dE n ds.slot c=true→Kn W0 w0 T→bP P ρ H c s μ k=some r→gN L T G0 w0 n ds s μ a w G→(∀st e a' w',k st=some r→StR L T G0 w0 n ds st e a' w'→Q e a' w')→c.wp P Q a w
 | .skip,α,k,r,Q,L,T,G0,G,w0,w,n,ds,s,μ,a,hc,hkn,h,hs,hk=>by
  simp only[bP]at h
  exact wp_skip (hk _ _ _ _ h ⟨G,hs⟩)
 | .region id ops draw,α,k,r,Q,L,T,G0,G,w0,w,n,ds,s,μ,a,hc,hkn,h,hs,hk=>by
  simp only[bP]at h
  simp only[dE]at hc
  obtain⟨R,E,hn,hd,h0⟩:=hs
  split at h
  ·refine wp_region (gq (L:=L) (G0:=G0) (w0:=w0) (T:=T) (n:=n) (ds:=ds) hrho (fun i o ho d hd=>kc hc (by simpa using ho) d hd) hkn ?_ ?_ _ h R E hn hd)
   ·intro s' μ' a' w' G' h' R' E' hn' hd'
    exact hk _ .normal a' w' h' ⟨G',R',E',hn',hd',h0⟩
   ·intro v s' μ' pv a' w' G' h' R' hv E' hn' hd'
    exact hk _ (.panic _) a' w' h' ⟨G',pv,rfl,hv,R',E',hn',hd',h0⟩
  ·obtain⟨hdr,h⟩:=aI.1 h
   refine C6 (L:=L) (G0:=G0) (w0:=w0) (T:=T) (n:=n) (ds:=ds) hrho hm hdr (fun i o ho d hd=>kc hc (by simpa using ho) d hd) hkn ?_ h R E hn hd
   intro s' μ' a' w' G' h' R' E' hn' hd'
   exact hk _ .normal a' w' h' ⟨G',R',E',hn',hd',h0⟩
 | .seq x y,α,k,r,Q,L,T,G0,G,w0,w,n,ds,s,μ,a,hc,hkn,h,hs,hk=>by
  simp only[bP]at h
  simp only[dE]at hc
  obtain⟨hx,hy⟩:=kX hc
  refine wp_seq (dx hm hrho hloop hseg x hx hkn h hs fun st e a' w' h' hst=> ?_)
  cases st with
  |norm s' μ'=>
   cases e<;>simp only[StR]at hst
   obtain⟨G',hs'⟩:=hst
   dsimp only at h'
   split at h'
   ·exact dx hm hrho hloop hseg y hy hkn h' hs' hk
   ·obtain⟨s1,G1,h1,R1,E1⟩:=kb h' hs'.1
    obtain⟨s2,G2,h2,R2,E2⟩:=dK h1 R1
    obtain⟨s3,G3,h2,R3,E3⟩:=nq (R2.lev▸h2) R2 (hs'.2.1.trans (E1.trans E2)) hs'.2.2.2.2
    obtain⟨st,hst,h3⟩:=ab.1 h2
    exact hseg _ _ _ _ _ _ hst L G3 w' a' Q T G0 w0 n ds hy hkn ⟨R3,E3,hs'.2.2⟩ fun e a' w' hr=>hk st e a' w' h3 hr
  |exit i s' μ'=>cases e<;>first|exact hst.elim|exact hk _ _ _ _ h' hst
  |ret s' μ'=>cases e<;>first|exact hst.elim|exact hk _ _ _ _ h' hst
  |panic v s' μ'=>cases e<;>first|exact hst.elim|exact hk _ _ _ _ h' hst
 | .cond cc x y,α,k,r,Q,L,T,G0,G,w0,w,n,ds,s,μ,a,hc,hkn,h,hs,hk=>by
  simp only[bP]at h
  simp only[dE]at hc
  obtain⟨hx,hy⟩:=kX hc
  obtain⟨b,hb,h⟩:=ab.1 h
  have hv:=cC (a:=a) hs.1 (ft hb)
  simp only[VR]at hv
  refine wp_cond hv ?_
  cases b with
  |true=>exact dx hm hrho hloop hseg x hx hkn h hs hk
  |false=>exact dx hm hrho hloop hseg y hy hkn h hs hk
 | .block id x,α,k,r,Q,L,T,G0,G,w0,w,n,ds,s,μ,a,hc,hkn,h,hs,hk=>by
  simp only[bP]at h
  simp only[dE]at hc
  refine wp_block (dx hm hrho hloop hseg x hc hkn h hs fun st e a' w' h' hst=> ?_)
  cases st with
  |norm s' μ'=>cases e<;>first|exact hst.elim|exact hk _ _ _ _ h' hst
  |exit i s' μ'=>
   cases e<;>first|exact hst.elim|skip
   simp only[StR]at hst
   obtain⟨rfl,hs'⟩:=hst
   simp only[Exit.inBlock]
   dsimp only at h'
   split at h'
   ·rename_i he
    rw[if_pos (Nat.eq_of_beq_eq_true he)]
    exact hk _ .normal _ _ h' hs'
   ·rename_i he
    rw[if_neg fun e=>by subst e;simp[Nat.beq_refl]at he]
    exact hk _ (.exit i) _ _ h' ⟨rfl,hs'⟩
  |ret s' μ'=>cases e<;>first|exact hst.elim|exact hk _ _ _ _ h' hst
  |panic v s' μ'=>cases e<;>first|exact hst.elim|exact hk _ _ _ _ h' hst
 | .loop x,α,k,r,Q,L,T,G0,G,w0,w,n,ds,s,μ,a,hc,hkn,h,hs,hk=>by
  simp only[bP]at h
  simp only[dE]at hc
  obtain⟨s1,G1,h1,R1,E1⟩:=kb h hs.1
  obtain⟨s',G',h',R',E'⟩:=dK h1 R1
  obtain⟨s3,G3,h',R3,E3⟩:=nq (R'.lev▸h') R' (hs.2.1.trans (E1.trans E')) hs.2.2.2.2
  obtain⟨st,hst,h'⟩:=ab.1 h'
  exact(hloop _ _ _ _ _ _ hst L G3 w a Q T G0 w0 n ds hc hkn ⟨R3,E3,hs.2.2⟩ fun e a' w' hr=>hk st e a' w' h' hr).wp
 | .exit id,α,k,r,Q,L,T,G0,G,w0,w,n,ds,s,μ,a,hc,hkn,h,hs,hk=>by
  simp only[bP]at h
  exact wp_exit (hk _ (.exit id) _ _ h ⟨rfl,G,hs⟩)
 | .ret,α,k,r,Q,L,T,G0,G,w0,w,n,ds,s,μ,a,hc,hkn,h,hs,hk=>by
  simp only[bP]at h
  exact wp_ret (hk _ .ret _ _ h ⟨G,hs⟩)
 | .rangeFunc ..,α,k,r,Q,L,T,G0,G,w0,w,n,ds,s,μ,a,hc,hkn,h,hs,hk=>by simp[bP]at h
 | .scope ..,α,k,r,Q,L,T,G0,G,w0,w,n,ds,s,μ,a,hc,hkn,h,hs,hk=>by simp[bP]at h
 | .label ..,α,k,r,Q,L,T,G0,G,w0,w,n,ds,s,μ,a,hc,hkn,h,hs,hk=>by simp[bP]at h
 | .goto ..,α,k,r,Q,L,T,G0,G,w0,w,n,ds,s,μ,a,hc,hkn,h,hs,hk=>by simp[bP]at h
 | .refuse ..,α,k,r,Q,L,T,G0,G,w0,w,n,ds,s,μ,a,hc,hkn,h,hs,hk=>by simp[bP]at h
theorem Cq (hm:P.follows .mixedOrders=true)(hrho:ew P W0 ρ)(hloop:kr P W0 ρ)(hseg:mO P W0 ρ){H:Hints}{lv:List (Nat×Nat)}{c:Code}{s:S}{μ:Mu}{st:St}(h:lP P ρ H lv c s μ=some st){L:Nat}{G G0:Gh}{w w0:World}{a:Act}{Q:Exit→Act→World→Prop}
  {T:Nat→Prop} {n:Nat} {ds:Keep} (hc:dE n ds.slot c=true) (hkn:Kn W0 w0 T) (hs:gN L T G0 w0 n ds s μ a w G) (hQ: ∀e a' w',StR L T G0 w0 n ds st e a' w'→Q e a' w'):pp P c Q a w:=by
 unfold lP at h
 refine .unroll (dx hm hrho hloop hseg c hc hkn h hs fun st1 e a' w' h' hst=> ?_)
 cases st1 with
 |norm s1 μ1=>
  cases e<;>simp only[StR]at hst
  obtain⟨G1,hs1⟩:=hst
  obtain⟨s3,G3,h3,R3,E3⟩:=kb h' hs1.1
  obtain⟨s2,G2,h2,R2,E2⟩:=dK h3 R3
  obtain⟨s4,G4,h2,R4,E4⟩:=nq (R2.lev▸h2) R2 (hs1.2.1.trans (E3.trans E2)) hs1.2.2.2.2
  exact hloop _ _ _ _ _ _ h2 L G4 w' a' Q T G0 w0 n ds hc hkn ⟨R4,E4,hs1.2.2⟩ hQ
 |exit i s1 μ1=>
  cases e<;>first|exact hst.elim|skip
  simp only[StR]at hst
  obtain⟨rfl,G1,hs1⟩:=hst
  obtain⟨s2,G2,h2,R2,E2⟩:=dK h' hs1.1
  simp only[Option.some.injEq]at h2
  subst h2
  exact hQ (.exit i) a' w' ⟨rfl,G2,R2,hs1.2.1.trans E2,hs1.2.2⟩
 |ret s1 μ1=>
  cases e<;>first|exact hst.elim|skip
  simp only[StR]at hst
  obtain⟨G1,hs1⟩:=hst
  obtain⟨s2,G2,h2,R2,E2⟩:=dK h' hs1.1
  simp only[Option.some.injEq]at h2
  subst h2
  exact hQ .ret a' w' ⟨G2,R2,hs1.2.1.trans E2,hs1.2.2⟩
 |panic v s1 μ1=>
  cases e<;>first|exact hst.elim|skip
  simp only[StR]at hst
  obtain⟨G1,pv,rfl,hv,hs1⟩:=hst
  obtain⟨s2,G2,h2,R2,E2⟩:=dK h' hs1.1
  simp only[Option.some.injEq]at h2
  subst h2
  exact hQ _ a' w' ⟨G2,pv,rfl,bm E2.le _ _ hv,R2,hs1.2.1.trans E2,hs1.2.2⟩
theorem Jj (hm:P.follows .mixedOrders=true)(hrho:ew P W0 ρ)(hloop:kr P W0 ρ)(hseg:mO P W0 ρ){H:Hints}{lv:List (Nat×Nat)}{c:Code}{s:S}{μ:Mu}{st:St}(h:sM P ρ H lv c s μ=some st){L:Nat}{G G0:Gh}{w w0:World}{a:Act}{Q:Exit→Act→World→Prop}
  {T:Nat→Prop} {n:Nat} {ds:Keep} (hc:dE n ds.slot c=true) (hkn:Kn W0 w0 T) (hs:gN L T G0 w0 n ds s μ a w G) (hQ: ∀e a' w',StR L T G0 w0 n ds st e a' w'→Q e a' w'):c.wp P Q a w:=by
 unfold sM at h
 refine dx hm hrho hloop hseg c hc hkn h hs fun st1 e a' w' h' hst=> ?_
 cases st1 with
 |norm s1 μ1=>
  cases e<;>simp only[StR]at hst
  obtain⟨G1,hs1⟩:=hst
  obtain⟨s2,G2,h2,R2,E2⟩:=dK h' hs1.1
  simp only[Option.some.injEq]at h2
  subst h2
  exact hQ .normal a' w' ⟨G2,R2,hs1.2.1.trans E2,hs1.2.2⟩
 |exit i s1 μ1=>
  cases e<;>first|exact hst.elim|skip
  simp only[StR]at hst
  obtain⟨rfl,G1,hs1⟩:=hst
  obtain⟨s2,G2,h2,R2,E2⟩:=dK h' hs1.1
  simp only[Option.some.injEq]at h2
  subst h2
  exact hQ (.exit i) a' w' ⟨rfl,G2,R2,hs1.2.1.trans E2,hs1.2.2⟩
 |ret s1 μ1=>
  cases e<;>first|exact hst.elim|skip
  simp only[StR]at hst
  obtain⟨G1,hs1⟩:=hst
  obtain⟨s2,G2,h2,R2,E2⟩:=dK h' hs1.1
  simp only[Option.some.injEq]at h2
  subst h2
  exact hQ .ret a' w' ⟨G2,R2,hs1.2.1.trans E2,hs1.2.2⟩
 |panic v s1 μ1=>
  cases e<;>first|exact hst.elim|skip
  simp only[StR]at hst
  obtain⟨G1,pv,rfl,hv,hs1⟩:=hst
  obtain⟨s2,G2,h2,R2,E2⟩:=dK h' hs1.1
  simp only[Option.some.injEq]at h2
  subst h2
  exact hQ _ a' w' ⟨G2,pv,rfl,bm E2.le _ _ hv,R2,hs1.2.1.trans E2,hs1.2.2⟩
end
section
variable {P:Program}{W0:World}{ρ:Rho}{L:Nat}{G G':Gh}{w w':World}{s:S}{μ μ':Mu}{tm:Array Value}
def xq (tm:Array Value)(x:ResultVar):Sem Value:=match x with
 | .tmp t=>pure (tm.getD t undef)
 | .cell a t=>do loadVar t (←asAddr (tm.getD a undef))
theorem OO (R:Rel G L s μ tm w){x:ResultVar}{y:LV}(h:Jh P s x=some y): ∃v,(xq tm x).run P w= .ok v w∧LVR G w L s.lam.length y v∧ ∀b,aE y v b→ ∃t,aE (s.fr t) (tm.getD t undef) b:=by
 cases x with
 |tmp t=>
  simp only[Jh,Option.some.injEq]at h
  subst h
  exact⟨_,rfl,R.fr t,fun b hb=>⟨t,hb⟩⟩
 |cell c t=>
  simp only[Jh]at h
  split at h<;>try(simp at h;done)
  rename_i i off he
  have hv:=R.fr c
  rw[he]at hv
  simp only[LVR]at hv
  unfold bB at h
  obtain⟨d,hd,h⟩:=ab.1 h
  obtain⟨cv,h1,h2,h3⟩:=ng (R.lam i) h ⟨d,hd⟩
  refine⟨cv,?_,h2,fun b hb=>absurd hb (h3 b)⟩
  simp only[Instr.loadAt,Instr.sureAddr,Sem.run_bind,Sem.run_pure,Result.andThen_ok]at h1
  simp only[xq,hv.2,asAddr,Sem.run_bind,Sem.run_pure,Result.andThen_ok]
  exact h1
theorem zq (R:Rel G L s μ tm w): ∀{l:List ResultVar} {ys:List LV},tI P s l=some ys→ ∃vs:List Value,(l.mapM (xq tm)).run P w= .ok vs w∧vs.length=ys.length∧
  ∀j y,ys[j]? =some y→LVR G w L s.lam.length y (vs.getD j undef)∧ ∀b,aE y (vs.getD j undef) b→ ∃t,aE (s.fr t) (tm.getD t undef) b
 |[],ys,h=>by
  simp only[tI,Option.some.injEq]at h
  subst h
  exact⟨[],by simp,rfl,fun j y hy=>by simp at hy⟩
 |x::r,ys,h=>by
  simp only[tI]at h
  obtain⟨y,h1,h⟩:=ab.1 h
  obtain⟨l,h2,h⟩:=ab.1 h
  simp only[Option.some.injEq]at h
  subst h
  obtain⟨v,k1,k2,k3⟩:=OO R h1
  obtain⟨vs,k4,k5,k6⟩:=zq R h2
  refine⟨v::vs,by simp only[List.mapM_cons,Sem.run_bind,k1,Result.andThen_ok,k4,Sem.run_pure],by simp[k5],fun j z hz=> ?_⟩
  cases j with
  |zero=>simp only[List.getElem?_cons_zero,Option.some.injEq]at hz;subst hz;simpa using And.intro k2 k3
  |succ j=>simpa using k6 j z (by simpa using hz)
theorem En (R:Rel G L s μ tm w){fn:Func}{ys:List LV}(h:tI P s fn.results.toList=some ys):
  ∃v,(results fn tm).run P w= .ok v w∧LVR G w L s.lam.length (eA ys) v∧ ∀b,aE (eA ys) v b→ ∃t,aE (s.fr t) (tm.getD t undef) b:=by
 obtain⟨vs,h1,h2,h3⟩:=zq R h
 have hm:(fn.results.mapM (xq tm)).run P w= .ok vs.toArray w:=by
  rw[Array.mapM_eq_mapM_toList,Sem.run_map,h1]
  rfl
 have hrun:(results fn tm).run P w= .ok (if h:vs.toArray.size=1 then vs.toArray[0]else .tuple vs.toArray) w:=by
  unfold results
  rw[Sem.run_bind]
  have e: ∀x:Sem (Array Value),x.run P w= .ok vs.toArray w→(x.run P w).andThen (fun a w'=>Sem.run P (pure (if h:a.size=1 then a[0]else Value.tuple a)) w')=
    .ok (if h:vs.toArray.size=1 then vs.toArray[0]else .tuple vs.toArray) w:=fun x hx=>by rw[hx];rfl
  exact e _ hm
 refine⟨_,hrun,?_⟩
 by_cases hl:ys.length=1
 ·cases ys with
  |nil=>simp at hl
  |cons y r=>
   cases r with
   |cons=>simp at hl
   |nil=>
    cases vs with
    |nil=>simp at h2
    |cons v r=>
     cases r with
     |cons=>simp at h2
     |nil=>simpa[eA]using h3 0 y rfl
 ·have e:eA ys= .ltup (ys.map Go.Abs.strip1):=by
   cases ys with
   |nil=>rfl
   |cons t r=>
    cases r with
    |nil=>simp at hl
    |cons u r=>rfl
  rw[e,dif_neg (by simpa[h2]using hl)]
  refine⟨?_,fun b hb=>by simp[aE]at hb⟩
  simp only[LVR]
  refine⟨_,rfl,?_⟩
  simp only
  clear e hl hrun hm h1 h
  induction ys generalizing vs with
  |nil=>cases vs<;>simp_all [bV]
  |cons y r ih=>
   cases vs with
   |nil=>simp at h2
   |cons v vs=>
    have h0:=h3 0 y rfl
    simp only[List.getD_cons_zero]at h0
    simp only[List.map_cons,bV]
    refine⟨v,vs,rfl,(iq h0.1).2,(iq h0.1).1,ih vs (by simpa using h2) fun j z hz=> ?_⟩
    simpa using h3 (j+1) z (by simpa using hz)
theorem Rel.leave {G0:Gh}{w0:World}{T:Nat→Prop}(R:Rel G L s μ tm w)(E:Ext L T G0 w0 G w (az G w s μ tm))(h0:G0.n L=0)(hgt: ∀l,L<l→G0.n l=0){vs:List LV}{tmr:Array Value}
  (hv: ∀j x,vs[j]? =some x→LVR (G.cut L) w L 0 x (tmr.getD j undef)) (ho: ∀j x b,vs[j]? =some x→aE x (tmr.getD j undef) b→(∃t,aE (s.fr t) (tm.getD t undef) b)∧j=0):
  Rel (G0.withO G.O) L (aN vs) μ tmr w∧Ext L T G0 w0 (G0.withO G.O) w (az (G0.withO G.O) w (aN vs) μ tmr)∧Le (G.cut L) w (G0.withO G.O) w:=by
 have hμ:=R.lev
 have hleC:Le (G.cut L) w (G0.withO G.O) w:=by
  refine⟨fun _ _ _ h hb=>⟨h,hb⟩,fun lev i h=> ?_,fun _ _ _ h hc=>⟨h,hc⟩,fun b cur e fz h=>⟨cur,fz,h,rfl⟩⟩
  simp only[Gh.cut]at h
  split at h
  ·rename_i hl
   obtain⟨h1,h2⟩:=E.lev lev hl
   simp only[Gh.withO,Gh.cut]
   exact⟨by rw[←h2];exact h,(h1 i).1.symm,(h1 i).2.symm⟩
  ·omega
 have hβ: ∀lev i,lev<L→(G0.withO G.O).β lev i=G.β lev i∧(G0.withO G.O).sz lev i=G.sz lev i:=fun lev i hl=>⟨((E.lev lev hl).1 i).1.symm,((E.lev lev hl).1 i).2.symm⟩
 have hlive: ∀lev i,aK (aD (μ++[(aN vs).lam]) lev i)→lev<L∧aK (aD (μ++[s.lam]) lev i):=by
  intro lev i h
  obtain⟨h1,h2⟩:=kN h
  refine⟨by omega,?_⟩
  have h3:aD (μ++[s.lam]) lev i=a8 μ lev i:=bz h1
  rw[h3,←h2];exact h
 have hown: ∀q b,ax (G0.withO G.O) w (aN vs).fr tmr (μ++[(aN vs).lam]) q b→(∃t,q= .fr 0∧ax G w s.fr tm (μ++[s.lam]) (.fr t) b)∨(∃lev i k,q= .ob lev i k∧ax G w s.fr tm (μ++[s.lam]) q b):=by
  intro q b h
  cases q with
  |fr t=>
   simp only[ax,cz]at h
   cases hx:vs[t]? with
   |none=>rw[hx]at h;simp[aE]at h
   |some x=>
    rw[hx]at h
    obtain⟨⟨u,hu⟩,rfl⟩:=ho t x b hx h
    exact .inl ⟨u,rfl,hu⟩
  |ob lev i k=>
   have hl:=fI h
   obtain⟨h1,h2⟩:=kN hl
   refine .inr ⟨lev,i,k,rfl,ii (fr':=(aN vs).fr) (tm':=tmr) ?_ (hβ lev i (by omega)).1 rfl h⟩
   rw[show aD (μ++[(aN vs).lam]) lev i=a8 μ lev i from h2]
   exact(bz h1).symm
 refine⟨⟨hμ,fun t=> ?_,fun i=> ?_,fun lev i hl=> ?_,fun lev i lev' i' h h' e=> ?_,fun q q' b h h'=> ?_,fun q b lev i h h' e=> ?_,fun lev hl=> ?_,?_,hgt⟩,⟨⟨E.le.map,fun lev i h=>⟨h,rfl,rfl⟩,E.le.imm,E.le.blk⟩,E.os,E.tape,E.output,E.size,E.keep,fun b hb=>E.grow b ?_,fun l hl=>⟨fun _=>⟨rfl,rfl⟩,rfl⟩⟩,hleC⟩
 ·rw[cz]
  cases hx:vs[t]? with
  |none=>simp[LVR,VR]
  |some x=>
   have h1:=hv t x hx
   refine uE x _ (cY (L:=L) (nl:=0) hleC (Nat.le_refl _) (fun i hi=>by omega) x _ (fun b _=>⟨rfl,rfl⟩) h1)
 ·have:aH (aN vs).lam i= .dead:=by simp[aN,aH]
  rw[this];trivial
 ·rw[(hβ lev i hl).1,(hβ lev i hl).2]
  refine cH (G:=G.below lev) (G':=(G0.withO G.O).below lev) (w':=w) ⟨fun _ _ _ h hb=>⟨h,hb⟩,fun l j hj=> ?_,fun _ _ _ h hc=>⟨h,hc⟩,fun b cur e fz h=>⟨cur,fz,h,rfl⟩⟩ (Nat.le_refl _) (fun _ h=>by omega) (fun _=>⟨rfl,rfl⟩) (fun _ _ _ _ _ _ _ _ _ _ _=>⟨rfl,rfl⟩) (R.mu lev i hl)
  simp only[Gh.below,Gh.withO]at hj ⊢
  split at hj
  ·rename_i hll
   obtain⟨h1,h2⟩:=E.lev l (by omega)
   rw[if_pos hll]
   exact⟨by rw[←h2];exact hj,(h1 j).1.symm,(h1 j).2.symm⟩
  ·omega
 ·have h1:=hlive lev i h
  have h2:=hlive lev' i' h'
  rw[(hβ lev i h1.1).1,(hβ lev' i' h2.1).1]at e
  exact R.inj lev i lev' i' h1.2 h2.2 e
 ·rcases hown q b h with⟨t,rfl,h1⟩|⟨lev,i,k,rfl,h1⟩<;>rcases hown q' b h' with⟨t',rfl,h1'⟩|⟨lev',i',k',rfl,h1'⟩
  ·rfl
  ·have:=R.own _ _ b h1 h1';cases this
  ·have:=R.own _ _ b h1 h1';cases this
  ·exact R.own _ _ b h1 h1'
 ·have h2:=hlive lev i h'
  rw[(hβ lev i h2.1).1]at e
  rcases hown q b h with⟨t,rfl,h1⟩|⟨lev',i',k',rfl,h1⟩
  ·exact R.apart _ b lev i h1 h2.2 e
  ·exact R.apart _ b lev i h1 h2.2 e
 ·have:=(E.lev lev hl).2
  rw[show (G0.withO G.O).n lev=G0.n lev from rfl,←this]
  exact R.nlt lev hl
 ·simp only[aN,Bool.false_eq_true,if_false]
  exact h0
 ·rcases hb with⟨q,hb⟩|⟨lev,i,hb,e⟩
  ·rcases hown q b hb with⟨t,rfl,h1⟩|⟨lev,i,k,rfl,h1⟩
   ·exact .inl ⟨_,h1⟩
   ·exact .inl ⟨_,h1⟩
  ·have h2:=hlive lev i hb
   exact .inr ⟨lev,i,h2.2,by rw[←(hβ lev i h2.1).1];exact e⟩
theorem ED (h0:G.n L=0)(hgt: ∀l,L<l→G.n l=0):Le G w (G.cut L) w:=by
 refine⟨fun _ _ _ h hb=>⟨h,hb⟩,fun lev i h=>⟨?_,rfl,rfl⟩,fun _ _ _ h hc=>⟨h,hc⟩,fun b cur e fz h=>⟨cur,fz,h,rfl⟩⟩
 have hl:lev<L:=by
  rcases Nat.lt_trichotomy lev L with h1|h1|h1
  ·exact h1
  ·subst h1;omega
  ·have:=hgt lev h1;omega
 simp only[Gh.cut,if_pos hl]
 exact h
theorem qT: ∀{l:List LV},fw l=true→ ∀x∈l,ij x=true
 |[],_,x,h=>by simp at h
 |y::r,hp,x,h=>by
  simp only[fw]at hp
  split at hp<;>try(simp at hp;done)
  rcases List.mem_cons.1 h with rfl|h
  ·assumption
  ·exact qT hp x h
theorem NI {nl:Nat}{x:LV}{v:Value}(hf:oN x=true)(hr:LVR G w L nl x v)(hb:(G.n L=0∧ ∀l,L<l→G.n l=0)∨fD L x=true):LVR (G.cut L) w L 0 x v:=by
 have one: ∀{x:LV} {v:Value},ij x=true→LVR G w L nl x v→((G.n L=0∧ ∀l,L<l→G.n l=0)∨lF L x=true)→LVR (G.cut L) w L 0 x v:=by
  intro x v hp hr hb
  cases x<;>simp only[ij,Bool.false_eq_true]at hp<;>simp only[LVR]at hr ⊢
  ·rcases hb with⟨h0,hgt⟩|hb
   ·exact bm (ED h0 hgt) _ _ hr
   ·exact dZ _ _ hb hr
  ·rcases hb with⟨h0,hgt⟩|hb
   ·exact jN (ED h0 hgt) (fun _ _ _ _=>⟨rfl,rfl⟩) hr
   ·exact yF hb hr
 unfold oN at hf
 split at hf
 ·exact one rfl hr (hb.imp id (fun h=>h))
 ·exact one rfl hr (hb.imp id (fun h=>h))
 ·rename_i xs
  simp only[LVR]at hr ⊢
  obtain⟨vs,e,hl⟩:=hr
  refine⟨vs,e,?_⟩
  have hb':(G.n L=0∧ ∀l,L<l→G.n l=0)∨ ∀x∈xs,lF L x=true:=hb.imp id fun h=>by simpa[fD]using h
  have hm:=qT hf
  clear hb hf e
  generalize vs.toList=l at hl
  induction xs generalizing l with
  |nil=>simpa[bV]using hl
  |cons x xs ih=>
   simp only[bV]at hl ⊢
   obtain⟨v,r,e,h1,h2,h3⟩:=hl
   exact⟨v,r,e,h1,one (hm x (by simp)) h2 (hb'.imp id fun h=>h x (by simp)),ih (hb'.imp id fun h y hy=>h y (List.mem_cons_of_mem _ hy)) (fun y hy=>hm y (List.mem_cons_of_mem _ hy)) r h3⟩
 ·simp at hf
theorem Rel.retm (R:Rel G L s μ tm w){tm':Array Value}(hf: ∀t,s.fr t= .cv .undef∨tm'.getD t undef=tm.getD t undef):
  Rel G L s μ tm' w∧ ∀q b,ax G w s.fr tm' (μ++[s.lam]) q b↔ax G w s.fr tm (μ++[s.lam]) q b:=by
 have hown: ∀q b,ax G w s.fr tm' (μ++[s.lam]) q b↔ax G w s.fr tm (μ++[s.lam]) q b:=by
  intro q b
  cases q with
  |fr t=>
   simp only[ax]
   rcases hf t with h|h
   ·rw[h];simp[aE]
   ·rw[h]
  |ob lev i k=>exact Iff.rfl
 refine⟨⟨R.lev,fun t=> ?_,R.lam,R.mu,R.inj,fun l l' b h h'=>R.own l l' b ((hown l b).1 h) ((hown l' b).1 h'),fun l b lev i h h'=>R.apart l b lev i ((hown l b).1 h) h',R.nlt,R.nL,R.ngt⟩,hown⟩
 rcases hf t with h|h
 ·rw[h];simp[LVR,VR]
 ·rw[h];exact R.fr t
theorem r2 {fn:Func}{G0:Gh}{w0:World}{T:Nat→Prop}{out:Out}(hfk:fR P fn.results.toList s μ=some out)(R':Rel G L s μ tm w)(E':Ext L T G0 w0 G w (az G w s μ tm))
  (h0:G0.n L=0) (hgt: ∀l,L<l→G0.n l=0): ∃v,(results fn tm).run P w= .ok v w∧ff L T G0 w0 out (.returned v) w:=by
 unfold fR at hfk
 obtain⟨ys,hys,hfk⟩:=ab.1 hfk
 dsimp only at hfk
 obtain⟨hfl,hfk⟩:=aI.1 hfk
 obtain⟨v,hv1,hr1,hr2⟩:=En R' hys
 have hout:out= .ret (eA ys) μ∧((G.n L=0∧ ∀l,L<l→G.n l=0)∨fD L (eA ys)=true):=by
  split at hfk
  ·rename_i hp
   simp only[Option.some.injEq]at hfk
   refine⟨hfk.symm,.inl ⟨?_,R'.ngt⟩⟩
   have:=R'.nL
   rw[hp]at this
   simpa using this
  ·obtain⟨hbl,hfk⟩:=aI.1 hfk
   simp only[Option.some.injEq]at hfk
   rw[R'.lev]at hbl
   exact⟨hfk.symm,.inr hbl⟩
 obtain⟨rfl,hbel⟩:=hout
 refine⟨v,hv1,?_⟩
 obtain ⟨R3, E3, _⟩ := R'.leave (vs := [eA ys]) (tmr := #[v]) E' h0 hgt (fun j x hx => by
  cases j with
  |zero=>simp only[List.getElem?_cons_zero,Option.some.injEq]at hx;subst hx;exact NI hfl hr1 hbel
  |succ j=>simp at hx) (fun j x b hx hob=>by
  cases j with
  |zero=>simp only[List.getElem?_cons_zero,Option.some.injEq]at hx;subst hx;exact⟨hr2 b hob,rfl⟩
  |succ j=>simp at hx)
 exact⟨_,R3,E3⟩
theorem CX (hm:P.follows .mixedOrders=true)(hrho:ew P W0 ρ)(hloop:kr P W0 ρ)(hseg:mO P W0 ρ){H:Hints}{f:FuncId}{fn:Func}{c:Code}{args:List LV}{out:Out}(hf:P.funcs[f]? =some fn)(hb:fn.body=some c)
  (h:zZ P ρ H fn c args μ=some out):cG P W0 f args μ out:=by
 unfold zZ at h
 obtain⟨hg,h⟩:=aI.1 h
 simp only[Bool.and_eq_true,Bool.not_eq_true']at hg
 obtain⟨⟨hg1,hg2⟩,hg3⟩:=hg
 have hg1:=Nat.le_of_ble_eq_true hg1
 refine⟨⟨fn,c,hf,hb,hg3⟩,fun G w cargs hsz R hkn=> ?_⟩
 refine calls_of_wp hf hb ?_
 have hsize:(cargs++Array.replicate (fn.ntmps-cargs.size) undef).size=fn.ntmps:=by simp;omega
 obtain⟨R1,hO⟩:=R.retm (tm':=cargs++Array.replicate (fn.ntmps-cargs.size) undef) fun t=>by
  by_cases ht:t<cargs.size
  ·right
   simp[Array.getD_eq_getD_getElem?,Array.getElem?_append_left ht]
  ·left
   rw[cz,List.getElem?_eq_none (by omega)]
   rfl
 have h0:G.n μ.length=0:=by simpa[aN]using R.nL
 refine dx hm hrho hloop hseg (L:=μ.length) (T:=az G w (aN args) μ cargs) (G0:=G) (w0:=w) (n:=fn.ntmps) (ds:=⟨[],none⟩) c hg2 hkn h ⟨R1,Ext.refl G w fun b hb=> ?_,hsize,⟨rfl,fun _ _ e=>by cases e⟩,h0⟩ ?_
 ·rcases hb with⟨q,hb⟩|hb
  ·exact .inl ⟨q,(hO q b).1 hb⟩
  ·exact .inr hb
 ·have fin: ∀(s':S) (μ':Mu) (a':Act) (w':World) (G':Gh),fR P fn.results.toList s' μ'=some out→gN μ.length (az G w (aN args) μ cargs) G w fn.ntmps ⟨[],none⟩ s' μ' a' w' G'→
    a'.defers=[]∧ ∃v,(results fn a'.tmps).run P w'= .ok v w'∧ff μ.length (az G w (aN args) μ cargs) G w out (.returned v) w':=by
   intro s' μ' a' w' G' hfk hs
   obtain⟨R',E',_,hds,_⟩:=hs
   obtain⟨v,h1,h2⟩:=r2 hfk R' E' h0 R.ngt
   exact⟨hds.1,v,h1,h2⟩
  intro st e a' w' hst hr
  cases st with
  |norm s' μ'=>
   cases e<;>simp only[StR]at hr
   obtain⟨G',hs⟩:=hr
   exact fin s' μ' a' w' G' hst hs
  |ret s' μ'=>
   cases e<;>simp only[StR]at hr
   obtain⟨G',hs⟩:=hr
   exact fin s' μ' a' w' G' hst hs
  |exit i s' μ'=>simp at hst
  |panic v s' μ'=>
   cases e<;>simp only[StR]at hr
   obtain⟨G',pv,rfl,hv,R',E',_,hds,_⟩:=hr
   obtain⟨hbl,hst⟩:=aI.1 hst
   simp only[Option.some.injEq]at hst
   subst hst
   rw[R'.lev]at hbl
   refine⟨hds.1,?_⟩
   obtain⟨R3,E3,hle⟩:=R'.leave (vs:=[]) (tmr:= #[]) E' h0 R.ngt (fun j x hx=>by simp at hx) (fun j x b hx=>by simp at hx)
   exact⟨_,pv,rfl,bm hle _ _ (dZ _ _ hbl hv),R3,E3⟩
end
end Go.Abs
set_option linter.unusedVariables false
set_option linter.unusedSimpArgs false
namespace Go.Abs
open Go
section
variable {P:Program}{W0:World}{ρ:Rho}{L:Nat}{G G':Gh}{w w':World}{s:S}{μ μ':Mu}{tm:Array Value}
def Ao (N:Act→World→Prop)(Q:Exit→Act→World→Prop):Exit→Act→World→Prop
  | .normal,a,w=>N a w
  |e,a,w=>Q e a w
theorem tc {ops:Array Oper}{Q:Exit→Act→World→Prop}{l2:List Nat}: ∀{l1:List Nat} {a:Act} {w:World},wpOps P ops (Ao (wpOps P ops Q l2) Q) l1 a w→wpOps P ops Q (l1++l2) a w
  |[],a,w,h=>h
  |i::l1,a,w,h=>by
    rw[List.cons_append,wpOps_cons]
    rw[wpOps_cons]at h
    have h:=wpOp_mono (fun a w=>tc (l1:=l1)) h
    unfold wpOp at h ⊢
    split at h
    · exact h
    · split at h
      · rename_i hw
        rw[if_pos hw]
        rcases h with h|⟨h1,a',w',h2⟩
        · left
          unfold Oper.wp at h ⊢
          generalize(execOp a.eval _).run P w=r at*
          cases r with
          |ok n w'=>
            cases n<;>simp only[Oper.upon]at h ⊢ <;>first
              |exact h
              | (refine Go.Calls.mono h fun e w'' he => ?_
                 cases e with
                 |returned v=>exact he
                 |panicked ch=>exact he
                 |outgrown=>obtain⟨a',w',h2⟩:=he;exact⟨a',w',h2⟩)
          |halt x w'=>cases x<;>simp only[Oper.upon]at h ⊢ <;>exact h
        · exact .inr ⟨h1,a',w',h2⟩
      · rename_i hw
        rw[if_neg hw]
        exact h
theorem gh {ops:Array Oper}{Q:Exit→Act→World→Prop}{Q':Exit→Act→List Frame→World→Prop}{cs:List Frame}(hQ: ¬LetsOut Q)(hq: ∀e a w,Q e a w→Q' e a cs w): ∀{l:List Nat} {a:Act} {w:World},wpOps P ops Q l a w→wpOpsS P ops Q' l a cs w
  |[],a,w,h=>hq _ _ _ h
  |i::l,a,w,h=>by
    simp only[wpOps]at h
    simp only[wpOpsS]
    cases ho:ops[i]? with
    |none=>rw[ho]at h;exact gh hQ hq h
    |some o=>
      rw[ho]at h
      simp only at h ⊢
      split at h
      · rename_i hw
        rw[if_pos hw]
        rcases h with h|⟨_,h⟩
        rotate_left
        · exact absurd h hQ
        unfold Oper.wp at h
        generalize(execOp a.eval o).run P w=r at*
        cases r with
        |ok n w'=>
          cases n with
          |value v=>exact gh hQ hq h
          |skip=>exact gh hQ hq h
          |defer d=>exact gh hQ hq h
          |enter f args=>
            refine Go.Calls.mono h fun e w'' he=> ?_
            cases e with
            |returned v=>exact gh hQ hq he
            |panicked ch=>exact hq _ _ _ he
            |outgrown=>exact absurd he hQ
          |row row args=>exact Rows.mono h fun v w'' he=>gh hQ hq he
          |_=>exact h.elim
        |halt x w'=>
          cases x with
          |panic v=>exact hq _ _ _ h
          |_=>exact h.elim
      · rename_i hw
        rw[if_neg hw]
        exact gh hQ hq h
theorem O7 {c:Code}{Q Q':Exit→Act→List Frame→World→Prop}{a:Act}{cs:List Frame}{w:World}(hq: ∀e a cs w,Q e a cs w→Q' e a cs w)(h:c.wpS P Q a cs w):c.wpS P Q' a cs w:=
  fun b k hb hr=>let⟨e,a',cs',w',q,r⟩:=h b k hb hr;⟨e,a',cs',w',hq _ _ _ _ q,r⟩
def oV (pv:Option CV)(cpv:Value):FrameMode:=match pv with|some _=> .panicking [{v:=cpv,recovered:=false}]|none=> .returning
def eK (pv:Option CV)(cpv:Value):FrameMode:=match pv with|some _=> .panicking [{v:=cpv,recovered:=true}]|none=> .returning
theorem zN {pv:Option CV}{cpv:Value}:settle (eK pv cpv)= .returning:=by
  cases pv<;>simp[eK,settle]
def JN (P:Program)(W0:World)(f:FuncId)(pv:Option CV)(args:List LV)(μ μ':Mu):Prop:=
  (∃fn c,P.funcs[f]? =some fn∧fn.body=some c∧(fn.name == "runtime.NumGoroutine")=false)∧
  ∀(G:Gh) (w:World) (cargs:Array Value) (cpv:Value),cargs.size=args.length→Rel G μ.length (aN args) μ cargs w→(∀v,pv=some v→VR G w v cpv)→Kn W0 w (az G w (aN args) μ cargs)→
    CallsD P f cargs (oV pv cpv) w fun e u' w'=> ∃v,e= .returned v∧u'=eK pv cpv∧
      ∃O',Rel (G.withO O') μ.length (aN []) μ' #[] w'∧Ext μ.length (az G w (aN args) μ cargs) G w (G.withO O') w' (az (G.withO O') w' (aN []) μ' #[])
def uB (P:Program)(W0:World)(ρ:Rho):Prop:= ∀f pv args μ μ',ρ.dcall f pv args μ=some μ'→JN P W0 f pv args μ μ'
theorem ym {o:Oper}(h:sc o=true):o.guard=none∧ ∃c,o.op= .call c∧c.callee= .builtin .recover:=by
  unfold sc at h
  split at h<;>try(cases h;done)
  rename_i c hg ho
  split at h<;>try(cases h;done)
  rename_i hc
  exact⟨hg,c,ho,hc⟩
theorem Bm (hm:P.follows .mixedOrders=true)(hrho:ew P W0 ρ)(hloop:kr P W0 ρ)(hseg:mO P W0 ρ){H:Hints}{f:FuncId}{fn:Func}{c:Code}{pv:Option CV}{args:List LV}(hf:P.funcs[f]? =some fn)(hb:fn.body=some c)
    (h:oK P ρ H fn c pv args μ=some μ'):JN P W0 f pv args μ μ':=by
  unfold oK at h
  split at h<;>try(cases h;done)
  rename_i id ops draw b
  split at h<;>try(cases h;done)
  split at h<;>try(cases h;done)
  rename_i o ho
  obtain⟨hg,h⟩:=aI.1 h
  simp only[Bool.and_eq_true,Bool.not_eq_true']at hg
  obtain⟨⟨⟨⟨⟨hg1,hg2⟩,hg3⟩,hg4⟩,hg5⟩,hg6⟩:=hg
  have hg1:=Nat.le_of_ble_eq_true hg1
  refine⟨⟨fn,_,hf,hb,hg4⟩,fun G w cargs cpv hsz R hpv hkn=> ?_⟩
  obtain⟨hgu,cc,hop,hcal⟩:=ym hg5
  have hsize:(cargs++Array.replicate (fn.ntmps-cargs.size) undef).size=fn.ntmps:=by simp;omega
  obtain⟨R1,hO⟩:=R.retm (tm':=cargs++Array.replicate (fn.ntmps-cargs.size) undef) fun t=>by
    by_cases ht:t<cargs.size
    · right
      simp[Array.getD_eq_getD_getElem?,Array.getElem?_append_left ht]
    · left
      rw[cz,List.getElem?_eq_none (by omega)]
      rfl
  have h0:G.n μ.length=0:=by simpa[aN]using R.nL
  have E1:Ext μ.length (az G w (aN args) μ cargs) G w G w (az G w (aN args) μ (cargs++Array.replicate (fn.ntmps-cargs.size) undef)):=Ext.refl G w fun b hb=>by
    rcases hb with⟨q,hb⟩|hb
    · exact .inl ⟨q,(hO q b).1 hb⟩
    · exact .inr hb
  refine callsD_of_wpS hf hb fun c₀ cs hc₀=> ?_
  let A:Act:={tmps:=cargs++Array.replicate (fn.ntmps-cargs.size) undef,defers:=[]}
  let rv:Value:=match pv with|some _=>cpv|none=> .nilIface
  let c1:Frame:={c₀ with mode:=eK pv cpv}
  have hds: ∀(i:Nat) (o:Oper),ops[i]? =some o→ ∀d,o.dst=some d→d<fn.ntmps∧(Keep.mk [] none).lets d:=fun i o ho d hd=>kc (ds:=⟨[],none⟩) hg2 (by simpa using ho) d hd
  obtain ⟨R2, E2⟩ := cx (a := A) (dst := o.dst) (v := Co pv) (cv := rv) (w := w) R1 E1 (by
    cases pv with
    |none=>simp[Co,rv,LVR,VR]
    |some v=>simpa[Co,rv,LVR]using hpv v rfl) (fun b hb=>by cases pv<;>simp[Co,aE]at hb) (fun d hd=>by rw[show A.tmps=_ from rfl,hsize];exact(hds 0 o ho d hd).1)
  have hpos:0<ops.size:=(Array.getElem?_eq_some_iff.1 ho).1
  have hrange:List.range ops.size=0::List.range' 1 (ops.size-1):=by
    rw[List.range_eq_range']
    conv=>lhs;rw[show ops.size=(ops.size-1)+1 by omega]
    rw[List.range'_succ]
  let Q:Exit→Act→World→Prop:=fun e a w'=>match e with
    | .normal| .ret=>a.defers=[]∧(∃v,(results fn a.tmps).run P w'= .ok v w')∧ ∃O',Rel (G.withO O') μ.length (aN []) μ' #[] w'∧Ext μ.length (az G w (aN args) μ cargs) G w (G.withO O') w' (az (G.withO O') w' (aN []) μ' #[])
    |_=>False
  have hlets: ∀N,¬LetsOut (Ao N Q):=fun N ⟨a,w,h⟩=>h
  have fin: ∀(s':S) (a':Act) (w':World) (G':Gh),gN μ.length (az G w (aN args) μ cargs) G w fn.ntmps ⟨[],none⟩ s' μ' a' w' G'→
      a'.defers=[]∧(∃v,(results fn a'.tmps).run P w'= .ok v w')∧ ∃O',Rel (G.withO O') μ.length (aN []) μ' #[] w'∧Ext μ.length (az G w (aN args) μ cargs) G w (G.withO O') w' (az (G.withO O') w' (aN []) μ' #[]):=by
    intro s' a' w' G' hs
    obtain⟨R',E',_,hd,_⟩:=hs
    refine⟨hd.1,?_,?_⟩
    · have he:fn.results= #[]:=by simpa using hg6
      exact⟨.tuple #[],by simp[results,he]⟩
    · obtain⟨R3,E3,_⟩:=R'.leave (vs:=[]) (tmr:= #[]) E' h0 R.ngt (fun j x hx=>by simp at hx) (fun j x b hx=>by simp at hx)
      exact⟨_,R3,E3⟩
  have hbw: ∀(s':S) (μ1:Mu) (a':Act) (w':World) (G':Gh),(bP P ρ H b s' μ1 fun st=>match st with| .norm s μ=>some μ| .ret s μ=>some μ|_=>none)=some μ'→gN μ.length (az G w (aN args) μ cargs) G w fn.ntmps ⟨[],none⟩ s' μ1 a' w' G'→b.wp P Q a' w':=by
    intro s' μ1 a' w' G' hx hs
    refine dx hm hrho hloop hseg (L:=μ.length) (G0:=G) (w0:=w) (n:=fn.ntmps) (ds:=⟨[],none⟩) b hg3 hkn hx hs fun st e a2 w2 hst hr=> ?_
    cases st with
    |norm s2 μ2=>
      simp only[Option.some.injEq]at hst
      subst hst
      cases e<;>simp only[StR]at hr
      obtain⟨G2,hs2⟩:=hr
      exact fin s2 a2 w2 G2 hs2
    |ret s2 μ2=>
      simp only[Option.some.injEq]at hst
      subst hst
      cases e<;>simp only[StR]at hr
      obtain⟨G2,hs2⟩:=hr
      exact fin s2 a2 w2 G2 hs2
    |exit i s2 μ2=>simp at hst
    |panic v s2 μ2=>simp at hst
  have hops:wpOps P ops (Ao (b.wp P Q) Q) (List.range' 1 (ops.size-1)) (A.put o.dst rv) w:=by
    refine gq (L:=μ.length) (G0:=G) (w0:=w) (T:=az G w (aN args) μ cargs) (n:=fn.ntmps) (ds:=⟨[],none⟩) (r:=μ') hrho hds hkn ?_ ?_ _ h R2 E2 (by rw[(jk A o.dst rv).1];exact hsize) (Keep.put ⟨rfl,fun _ _ e=>by cases e⟩ fun d hd=>(hds 0 o ho d hd).2)
    · intro s1 μ1 a1 w1 G1 hx R' E' hn' hd'
      exact hbw s1 μ1 a1 w1 G1 hx ⟨R',E',hn',hd',h0⟩
    · intro v s1 μ1 pv1 a1 w1 G1 hx
      cases hx
  refine wpS_seq (wpS_region ?_)
  rw[hrange]
  simp only[wpOpsS,ho]
  have hw:Region.wanted o (yielded ops A.tmps)=true:=by simp[Region.wanted,hgu]
  rw[if_pos hw]
  have hrun:(execOp A.eval o).run P w= .ok .recover w:=by
    simp[execOp,hop,resolve,hcal,invoke,builtin]
  have hrec:recoverD (c₀::cs)=(match pv with|some _=>some (cpv,c1::cs)|none=>none):=by
    cases pv with
    |none=>simp[recoverD,hc₀,oV]
    |some v=>simp[recoverD,hc₀,oV,c1,eK]
  rw[hrun]
  simp only
  have key : wpOpsS P ops (Exit.thenS (b.wpS P (bodyPostS P fn c₀ cs fun e u' w' => ∃ v, e = .returned v ∧ u' = eK pv cpv ∧
      ∃O',Rel (G.withO O') μ.length (aN []) μ' #[] w'∧Ext μ.length (az G w (aN args) μ cargs) G w (G.withO O') w' (az (G.withO O') w' (aN []) μ' #[])))
      (bodyPostS P fn c₀ cs fun e u' w' => ∃ v, e = .returned v ∧ u' = eK pv cpv ∧
      ∃O',Rel (G.withO O') μ.length (aN []) μ' #[] w'∧Ext μ.length (az G w (aN args) μ cargs) G w (G.withO O') w' (az (G.withO O') w' (aN []) μ' #[])))
      (List.range' 1 (ops.size-1)) (A.put o.dst rv) (c1::cs) w:=by
    refine gh (hlets _) ?_ hops
    intro e a1 w1 hq
    cases e with
    |normal=>
      simp only[Exit.thenS]
      refine O7 ?_ (wpS_of_wp (cs:=c1::cs) (Q:=fun e a cs' w=>cs'=c1::cs∧Q e a w) (Code.wp_mono (fun e a w h=>⟨rfl,h⟩) hq))
      rintro e a2 cs2 w2 ⟨rfl,hq2⟩
      cases e with
      |normal=>obtain⟨h1,⟨v,h2⟩,h3⟩:=hq2;exact⟨h1,_,rfl,v,h2,v,rfl,rfl,h3⟩
      |ret=>obtain⟨h1,⟨v,h2⟩,h3⟩:=hq2;exact⟨h1,_,rfl,v,h2,v,rfl,rfl,h3⟩
      |_=>exact hq2.elim
    |ret=>obtain⟨h1,⟨v,h2⟩,h3⟩:=hq;exact⟨h1,_,rfl,v,h2,v,rfl,rfl,h3⟩
    |_=>exact hq.elim
  cases pv with
  |none=>
    rw[hrec]
    have e1:c1=c₀:=by
      simp only[c1,eK]
      rw[show FrameMode.returning=c₀.mode from hc₀.symm]
    rw[e1]at key
    exact key
  |some v=>
    rw[hrec]
    exact key
theorem BB {t:Nat}{o:Oper}(h:yl t o=true):o.guard=none∧o.dst=none∧ ∃c,o.op= .defer c∧c.callee= .value (.tmp t)∧c.args= #[]:=by
  unfold yl at h
  split at h<;>try(cases h;done)
  rename_i c hg hd ho
  split at h<;>try(cases h;done)
  rename_i u hc
  split at h<;>try(cases h;done)
  rename_i ha
  have:=Nat.eq_of_beq_eq_true h
  subst this
  exact⟨hg,hd,c,ho,hc,by simpa using ha⟩
theorem yd {T:Nat→Prop}{G0:Gh}{w0:World}(hd:uB P W0 ρ){t:Nat}{pv:Option CV}{α:Type}{k:S→Mu→Option α}{r:α}(h:jU ρ t pv s μ k=some r)(R:Rel G L s μ tm w)(E0:Ext L T G0 w0 G w (az G w s μ tm))
    (hkn:Kn W0 w0 T) {cpv:Value} (hpv: ∀v,pv=some v→VR G w v cpv):
    ∃f vs,tm.getD t undef= .func (.func f) #[] vs∧(∃fn c,P.funcs[f]? =some fn∧fn.body=some c∧(fn.name == "runtime.NumGoroutine")=false)∧
      CallsD P f vs (oV pv cpv) w fun e u' w'=> ∃v,e= .returned v∧u'=eK pv cpv∧ ∃s' μ' G',k s' μ'=some r∧Rel G' L s' μ' tm w'∧Ext L T G0 w0 G' w' (az G' w' s' μ' tm):=by
  unfold jU at h
  split at h<;>try(cases h;done)
  rename_i f caps hfr
  obtain⟨args',ha,h⟩:=ab.1 h
  obtain⟨l,hlm,h⟩:=ab.1 h
  obtain⟨μ2,hdc,h⟩:=ab.1 h
  obtain⟨q,hq,hk9⟩:=ab.1 h
  have hq':=qz hq
  clear hq h
  subst hq'
  have hv:=R.fr t
  rw[hfr]at hv
  simp only[LVR]at hv
  obtain⟨vs,hvs,hcaps⟩:=hv
  obtain⟨hfn,hM⟩:=hd _ _ _ _ _ hdc
  refine⟨f,vs,hvs,hfn,?_⟩
  have hμ:=R.lev
  rw[hμ]at ha hlm
  obtain⟨hcl,hcg⟩:=pm hcaps
  have A:ArgsR G w L s tm [] caps vs:=by
    refine⟨by simpa using hcl.symm,fun j x hx=> ?_,fun j x b hx hob=> ?_⟩
    · obtain⟨v,hv,hr,_⟩:=hcg j x hx
      have:vs.getD j undef=v:=by
        rw[Array.getElem?_toList]at hv
        simp[Array.getD_eq_getD_getElem?,hv]
      rw[this]
      exact hr
    · obtain⟨v,hv,hr,hne⟩:=hcg j x hx
      exact absurd hob (mN hne)
  obtain⟨Re,hown,hlive⟩:=R.enterP A ha hlm
  have hT: ∀b,az (G.push L s.lam.length) w (aN args') (μ++[l]) vs b→ ∀t,¬aE (s.fr t) (tm.getD t undef) b:=by
    rintro b (⟨q,hb⟩|⟨lev,i,hb,rfl⟩) t ht
    · rcases hown q b hb with⟨j,x,rfl,hx,ho⟩|⟨lev,i,k,rfl,ho⟩
      · obtain⟨⟨u,hu,_⟩,_⟩:=A.own j x b hx ho
        simp at hu
      · have:=R.own (.fr t) _ b ht ho
        cases this
    · exact R.apart (.fr t) _ lev i ht (hlive lev i hb) rfl
  have hT0: ∀b,az (G.push L s.lam.length) w (aN args') (μ++[l]) vs b→az G w s μ tm b:=by
    rintro b (⟨q,hb⟩|⟨lev,i,hb,rfl⟩)
    · rcases hown q b hb with⟨j,x,rfl,hx,ho⟩|⟨lev,i,k,rfl,ho⟩
      · obtain⟨⟨u,hu,_⟩,_⟩:=A.own j x b hx ho
        simp at hu
      · exact .inl ⟨_,ho⟩
    · exact .inr ⟨lev,i,hlive lev i hb,rfl⟩
  have hnL: ∀i,i<G.n L→i<s.lam.length:=fun i hi=>by
    have:=R.nL
    split at this<;>omega
  have hcall:=hM (G.push L s.lam.length) w vs cpv (by rw[A.size,(fY ha).1]) (by rw[List.length_append,hμ];exact Re) (fun v e=>bm (ko hnL) v _ (hpv v e)) ((hkn.ext E0).mono hT0)
  rw[show (μ++[l]).length=L+1 by simp[hμ]]at hcall
  refine hcall.mono ?_
  rintro e u' w' ⟨v,rfl,rfl,O',Rc,E⟩
  refine⟨v,rfl,rfl,{s with lam:=q.2,pushed:=true},q.1,(G.push L s.lam.length).withO O',hk9,?_⟩
  obtain⟨R2,h2,h3⟩:=R.mergeP (O':=O') hT rfl Rc E
  have hin: ∀b,az ((G.push L s.lam.length).withO O') w' (aN []) (q.1++[q.2]) #[] b→(az G w s μ tm b∨w.heap.size≤b):=fun b hb=>(E.grow b hb).imp (hT0 b) id
  refine⟨R2,E0.trans ⟨(ko hnL).trans E.le,E.os,E.tape,E.output,E.size,fun b hb hn=>E.keep b hb fun hh=>hn (hT0 b hh),fun b hb=> ?_,fun lv hlv=> ?_⟩⟩
  · rcases hb with⟨q',hb⟩|⟨lev,i,hb,rfl⟩
    · rcases h2 q' b hb with⟨_,_,h4⟩|⟨_,h4⟩
      · exact .inl (.inl ⟨q',h4⟩)
      · exact hin b (.inl ⟨q',h4⟩)
    · exact hin _ (.inr ⟨lev,i,h3 lev i hb,rfl⟩)
  · refine⟨fun _=>⟨rfl,rfl⟩,?_⟩
    simp only[Gh.withO,Gh.push]
    rw[if_neg (by omega)]
theorem A0 (hm:P.follows .mixedOrders=true)(hrho:ew P W0 ρ)(hloop:kr P W0 ρ)(hseg:mO P W0 ρ)(hdc:uB P W0 ρ){H:Hints}{f:FuncId}{fn:Func}{c:Code}{t:Nat}{args:List LV}{out:Out}(hf:P.funcs[f]? =some fn)(hb:fn.body=some c)
    (h:oI P ρ H fn c t args μ=some out):cG P W0 f args μ out:=by
  unfold oI at h
  split at h<;>try(cases h;done)
  rename_i ca id ops draw cb
  split at h<;>try(cases h;done)
  split at h<;>try(cases h;done)
  rename_i o ho
  obtain⟨hg,h⟩:=aI.1 h
  simp only[Bool.and_eq_true,Bool.not_eq_true']at hg
  obtain⟨⟨⟨⟨⟨hg1,hg2⟩,hg3⟩,hg4⟩,hg5⟩,hg6⟩:=hg
  have hg1:=Nat.le_of_ble_eq_true hg1
  obtain⟨hgu,hdst,cc,hop,hcal,hargs⟩:=BB hg6
  refine⟨⟨fn,_,hf,hb,hg5⟩,fun G w cargs hsz R hkn=> ?_⟩
  refine calls_of_wp_defers hf hb ?_
  have hsize:(cargs++Array.replicate (fn.ntmps-cargs.size) undef).size=fn.ntmps:=by simp;omega
  obtain⟨R1,hO⟩:=R.retm (tm':=cargs++Array.replicate (fn.ntmps-cargs.size) undef) fun t=>by
    by_cases ht:t<cargs.size
    · right
      simp[Array.getD_eq_getD_getElem?,Array.getElem?_append_left ht]
    · left
      rw[cz,List.getElem?_eq_none (by omega)]
      rfl
  have h0:G.n μ.length=0:=by simpa[aN]using R.nL
  have E1:Ext μ.length (az G w (aN args) μ cargs) G w G w (az G w (aN args) μ (cargs++Array.replicate (fn.ntmps-cargs.size) undef)):=Ext.refl G w fun b hb=>by
    rcases hb with⟨q,hb⟩|hb
    · exact .inl ⟨q,(hO q b).1 hb⟩
    · exact .inr hb
  have hpos:0<ops.size:=by
    have:=(Array.getElem?_eq_some_iff.1 ho).1
    omega
  have hrange:List.range ops.size=List.range (ops.size-1)++[ops.size-1]:=by
    conv=>lhs;rw[show ops.size=(ops.size-1)+1 by omega]
    rw[List.range_succ]
  have fin: ∀(pv:Option CV) (cpv:Value) (s':S) (μ':Mu) (a':Act) (w':World) (G':Gh) (vs0:Value),jU ρ t pv s' μ' (fun s μ=>fR P fn.results.toList s μ)=some out→(∀v,pv=some v→VR G' w' v cpv)→
      ∀d:Deferred,(∀f vs,vs0= .func (.func f) #[] vs→d={target:= .fn (.func f) vs,args:= #[]})→gN μ.length (az G w (aN args) μ cargs) G w fn.ntmps ⟨[d],some (t,vs0)⟩ s' μ' a' w' G'→
      Leaves P fn a'.tmps (ff μ.length (az G w (aN args) μ cargs) G w out) a'.defers (oV pv cpv) w':=by
    intro pv cpv s' μ' a' w' G' vs0 hdk hpv d hd hs
    obtain⟨R',E',_,⟨hk1,hk2⟩,_⟩:=hs
    obtain⟨f',vs,hval,⟨fn',c',hf',hb',hn'⟩,hcall⟩:=yd hdc hdk R' E' hkn hpv
    have hv0:=hk2 t vs0 rfl
    rw[hval]at hv0
    have hd:=hd f' vs hv0.symm
    subst hd
    rw[hk1]
    refine⟨by cases pv<;>simp[oV],.func f',vs,f',vs,rfl,?_,?_⟩
    · simp only[invoke,callFunc,Sem.run_bind,run_program,Result.andThen_ok,hf',hn',hb',Option.isNone_some,Bool.false_eq_true,if_false,Array.empty_append,Sem.run_pure]
    · refine hcall.mono ?_
      rintro e u' w2 ⟨v,rfl,rfl,s2,μ2,G2,hk,R2,E2⟩
      simp only
      rw[zN]
      simp only[Leaves]
      exact r2 hk R2 E2 h0 R.ngt
  have hbw: ∀(s':S) (μ1:Mu) (a':Act) (w':World) (G':Gh) (vs0:Value),bP P ρ H cb s' μ1 (yg P ρ t fn.results.toList)=some out→
      ∀d:Deferred,(∀f vs,vs0= .func (.func f) #[] vs→d={target:= .fn (.func f) vs,args:= #[]})→gN μ.length (az G w (aN args) μ cargs) G w fn.ntmps ⟨[d],some (t,vs0)⟩ s' μ1 a' w' G'→
      cb.wp P (bodyPostD P fn (ff μ.length (az G w (aN args) μ cargs) G w out)) a' w':=by
    intro s' μ1 a' w' G' vs0 hx d hd hs
    refine dx hm hrho hloop hseg (L:=μ.length) (G0:=G) (w0:=w) (n:=fn.ntmps) (ds:=⟨[d],some (t,vs0)⟩) cb hg4 hkn hx hs fun st e a2 w2 hst hr=> ?_
    cases st with
    |norm s2 μ2=>
      cases e<;>simp only[StR]at hr
      obtain⟨G2,hs2⟩:=hr
      exact fin none undef s2 μ2 a2 w2 G2 vs0 hst (fun v hv=>by cases hv) d hd hs2
    |ret s2 μ2=>
      cases e<;>simp only[StR]at hr
      obtain⟨G2,hs2⟩:=hr
      exact fin none undef s2 μ2 a2 w2 G2 vs0 hst (fun v hv=>by cases hv) d hd hs2
    |exit i s2 μ2=>simp[yg]at hst
    |panic v s2 μ2=>
      cases e<;>simp only[StR]at hr
      obtain⟨G2,pv,rfl,hv,hs2⟩:=hr
      exact fin (some v) pv s2 μ2 a2 w2 G2 vs0 hst (fun v' hv'=>by injection hv' with hv';subst hv';exact hv) d hd hs2
  have hds: ∀(i:Nat) (o:Oper),ops[i]? =some o→ ∀d,o.dst=some d→d<fn.ntmps∧(Keep.mk [] none).lets d:=fun i o ho d hd=>kc (ds:=⟨[],none⟩) hg3 (by simpa using ho) d hd
  refine wp_seq (dx hm hrho hloop hseg (L:=μ.length) (T:=az G w (aN args) μ cargs) (G0:=G) (w0:=w) (n:=fn.ntmps) (ds:=⟨[],none⟩) ca hg2 hkn h ⟨R1,E1,hsize,⟨rfl,fun _ _ e=>by cases e⟩,h0⟩ fun st e a1 w1 hst hr=> ?_)
  cases st with
  |norm s1 μ1=>
    cases e<;>simp only[StR]at hr
    obtain⟨G1,R2,E2,hn2,hk2,_⟩:=hr
    refine wp_seq (wp_region ?_)
    rw[hrange]
    refine tc ?_
    refine gq (L:=μ.length) (G0:=G) (w0:=w) (T:=az G w (aN args) μ cargs) (n:=fn.ntmps) (ds:=⟨[],none⟩) (r:=out) hrho hds hkn ?_ ?_ _ hst R2 E2 hn2 hk2
    · intro s3 μ3 a3 w3 G3 hx R3 E3 hn3 hk3
      simp only[Ao,wpOps,ho]
      have hw:Region.wanted o (yielded ops a3.tmps)=true:=by simp[Region.wanted,hgu]
      rw[if_pos hw]
      left
      have hval: ∃(dd:Deferred),(execOp a3.eval o).run P w3= .ok (.defer dd) w3∧ ∀f vs,a3.tmps.getD t undef= .func (.func f) #[] vs→dd={target:= .fn (.func f) vs,args:= #[]}:=by
        obtain⟨hic,_⟩:=aI.1 hx
        have hv:=R3.fr t
        revert hic hv
        generalize s3.fr t=q
        intro hic hv
        cases q<;>simp only[PB,Bool.false_eq_true]at hic
        rename_i f0 caps
        simp only[LVR]at hv
        obtain⟨vs,hvs,_⟩:=hv
        refine⟨{target:= .fn (.func f0) vs,args:= #[]},?_,fun f1 vs1 e=> ?_⟩
        · have:a3.eval (.tmp t)= .func (.func f0) #[] vs:=hvs
          simp[execOp,hop,resolve,hcal,hargs,this,Deferred.ofValue]
        · rw[hvs]at e
          injection e with e1 e2 e3
          injection e1 with e1
          rw[e1,e3]
      obtain⟨dd,hrun,hdd⟩:=hval
      unfold Oper.wp
      rw[hrun,Oper.upon_defer,hdst]
      simp only[Act.put,Exit.then]
      exact hbw s3 μ3 {a3 with defers:=dd::a3.defers} w3 G3 (a3.tmps.getD t undef) (aI.1 hx).2 dd hdd ⟨R3,E3,hn3,⟨by rw[hk3.1],fun t' v' e=>by injection e with e;injection e with e1 e2;subst e1;exact e2⟩,h0⟩
    · intro v s3 μ3 pv3 a3 w3 G3 hx
      cases hx
  |exit i s1 μ1=>simp at hst
  |ret s1 μ1=>simp at hst
  |panic v s1 μ1=>simp at hst
def tq (E:Env)(W0:World):Prop:= ∀f g,E.prim f=some g→ ∀args μ out,g args μ=some out→cG E.P W0 f args μ out
theorem yT {E:Env}(hm:E.P.follows .mixedOrders=true)(hp:tq E W0): ∀n,ew E.P W0 (evn E n)∧kr E.P W0 (evn E n)∧mO E.P W0 (evn E n)∧uB E.P W0 (evn E n)
  |0=>⟨fun f args μ out h=>by simp[evn]at h,fun H lv c s μ st h=>by simp[evn]at h,fun H lv c s μ st h=>by simp[evn]at h,fun f pv args μ μ' h=>by simp[evn]at h⟩
  |n+1=>by
    obtain⟨h1,h2,h3,h4⟩:=yT hm hp n
    refine⟨fun f args μ out h=> ?_,fun H lv c s μ st h L G w a Q T G0 w0 k ds hc hkn hs hQ=>Cq hm h1 h2 h3 h hc hkn hs hQ,fun H lv c s μ st h L G w a Q T G0 w0 k ds hc hkn hs hQ=>Jj hm h1 h2 h3 h hc hkn hs hQ,fun f pv args μ μ' h=> ?_⟩
    · simp only[evn,aC]at h
      split at h
      · rename_i g hg
        exact hp f g hg args μ out h
      · split at h<;>try(simp at h;done)
        rename_i fn hf
        split at h<;>try(simp at h;done)
        rename_i c hb
        split at h
        · exact CX hm h1 h2 h3 hf hb h
        · exact A0 hm h1 h2 h3 h4 hf hb h
    · simp only[evn,gd]at h
      split at h<;>try(simp at h;done)
      rename_i fn hf
      split at h<;>try(simp at h;done)
      rename_i c hb
      exact Bm hm h1 h2 h3 hf hb h
end
end Go.Abs
set_option linter.unusedVariables false
set_option linter.unusedSimpArgs false
namespace Go.Abs
open Go
def Lim {β:Type}(x:Nat→Option β)(y:Option β):Prop:= ∀r,y=some r→ ∃n,∀m,n≤m→x m=some r
section
variable {α β γ:Type}
theorem Lim.const (y:Option β):Lim (fun _=>y) y:=fun r h=>⟨0,fun _ _=>h⟩
theorem Lim.opt {x:Nat→Option α}{y:Option α}{k:Nat→α→Option β}{kω:α→Option β}(hx:Lim x y)(hk: ∀a,Lim (fun n=>k n a) (kω a)):Lim (fun n=>opt (x n) (k n)) (opt y kω):=by
 intro r h
 obtain⟨a,h1,h2⟩:=ab.1 h
 obtain⟨n,hn⟩:=hx a h1
 obtain⟨m,hm⟩:=hk a r h2
 exact⟨max n m,fun q hq=>ab.2 ⟨a,hn q (by omega),hm q (by omega)⟩⟩
theorem Lim.opt' {x:Option α}{k:Nat→α→Option β}{kω:α→Option β}(hk: ∀a,Lim (fun n=>k n a) (kω a)):Lim (fun n=>Abs.opt x (k n)) (Abs.opt x kω):=Lim.opt (.const x) hk
theorem Lim.guard {b:Bool}{k:Nat→Option β}{kω:Option β}(hk:Lim k kω):Lim (fun n=>aB b (k n)) (aB b kω):=by
 cases b
 ·exact .const _
 ·exact hk
theorem Lim.cond {b:Bool}{k l:Nat→Option β}{kω lω:Option β}(hk:Lim k kω)(hl:Lim l lω):Lim (fun n=>cond b (k n) (l n)) (cond b kω lω):=by
 cases b
 ·exact hl
 ·exact hk
theorem Lim.none:Lim (fun _=>(none:Option β)) none:= .const _
theorem Lim.callK {x:Nat→Option Out}{y:Option Out}{k:Nat→LV→Mu→Option β}{kω:LV→Mu→Option β}{p:Nat→CV→Mu→Option β}{pω:CV→Mu→Option β}(hx:Lim x y)
  (hk: ∀v μ,Lim (fun n=>k n v μ) (kω v μ)) (hp: ∀v μ,Lim (fun n=>p n v μ) (pω v μ)):Lim (fun n=>Abs.callK (x n) (k n) (p n)) (Abs.callK y kω pω):=by
 unfold Abs.callK
 refine Lim.opt hx fun a=> ?_
 cases a with
 |ret v μ=>exact hk v μ
 |panic v μ=>exact hp v μ
theorem y8 {d:TypeDesc}{x:LV}{k:Nat→CV→Option β}{kω:CV→Option β}(hk: ∀c,Lim (fun n=>k n c) (kω c)):Lim (fun n=>jb d x (k n)) (jb d x kω):=by
 unfold jb
 cases d<;>exact Lim.opt' fun _=>hk _
theorem qo: ∀{ds:List TypeDesc} {cs:List CV} {k:Nat→List CV→Option β} {kω:List CV→Option β} (hk: ∀c,Lim (fun n=>k n c) (kω c)),Lim (fun n=>fl ds cs (k n)) (fl ds cs kω)
 |[],cs,k,kω,hk=>by unfold fl;exact Lim.opt' fun _=>hk _
 |d::ds,cs,k,kω,hk=>by
  unfold fl
  exact Lim.opt' fun _=>y8 fun _=>qo fun _=>hk _
variable {P:Program}
theorem j7 {t:TypeId}{x:LV}{k:Nat→CV→Option β}{kω:CV→Option β}(hk: ∀c,Lim (fun n=>k n c) (kω c)):Lim (fun n=>io P t x (k n)) (io P t x kω):=by
 unfold io
 cases eo P t
 ·cases P.underlying t
  ·exact .none
  ·exact y8 hk
 ·exact Lim.opt' fun _=>qo fun _=>hk _
theorem wZ {own:Bool}{t:TypeId}{x:LV}{k:Nat→LV→Option β}{kω:LV→Option β}(hk: ∀c,Lim (fun n=>k n c) (kω c)):Lim (fun n=>i7 P own t x (k n)) (i7 P own t x kω):=by
 unfold i7
 cases own
 ·exact j7 fun _=>hk _
 ·exact Lim.opt' fun _=>hk _
theorem sk: ∀{ts:List TypeId} {xs:List LV} {k:Nat→List LV→Option β} {kω:List LV→Option β} (hk: ∀c,Lim (fun n=>k n c) (kω c)),Lim (fun n=>ef P ts xs (k n)) (ef P ts xs kω)
 |[],xs,k,kω,hk=>by unfold ef;exact Lim.opt' fun _=>hk _
 |t::ts,xs,k,kω,hk=>by
  unfold ef
  exact Lim.opt' fun _=>wZ fun _=>sk fun _=>hk _
theorem j6 {own:Bool}{t:TypeId}{x:LV}{k:Nat→LV→Option β}{kω:LV→Option β}(hk: ∀c,Lim (fun n=>k n c) (kω c)):Lim (fun n=>dy P own t x (k n)) (dy P own t x kω):=by
 unfold dy
 split
 ·exact Lim.opt' fun _=>sk fun _=>hk _
 ·exact wZ hk
theorem Dh {b:Bool}{t:TypeId}{x:LV}{k:Nat→LV→Option β}{kω:LV→Option β}(hk: ∀c,Lim (fun n=>k n c) (kω c)):Lim (fun n=>jJ P b t x (k n)) (jJ P b t x kω):=by
 cases b with
 |true=>exact j6 hk
 |false=>exact hk _
theorem LK {h:OpHint}{t:TypeId}{a:LV}{s:S}{μ:Mu}{k:Nat→LV→S→Mu→Option β}{kω:LV→S→Mu→Option β}(hk: ∀v s μ,Lim (fun n=>k n v s μ) (kω v s μ)):Lim (fun n=>gn P h t a s μ (k n)) (gn P h t a s μ kω):=by
 unfold gn
 split
 ·split
  ·exact .none
  ·split
   ·exact Lim.opt' fun _=>Dh fun _=>hk _ _ _
   ·exact Lim.opt' fun _=>hk _ _ _
 ·split
  ·exact Lim.opt' fun _=>Lim.opt' fun _=>hk _ _ _
  ·refine Lim.opt' fun _=> ?_
   split
   ·exact Lim.opt' fun _=>j6 fun _=>hk _ _ _
   ·exact Lim.opt' fun _=>j6 fun _=>hk _ _ _
 ·exact .none
theorem HE {h:OpHint}{t:TypeId}{a v:LV}{s:S}{μ:Mu}{k:Nat→LV→S→Mu→Option β}{kω:LV→S→Mu→Option β}(hk: ∀v s μ,Lim (fun n=>k n v s μ) (kω v s μ)):Lim (fun n=>gB P h t a v s μ (k n)) (gB P h t a v s μ kω):=by
 unfold gB
 split
 ·split
  ·exact .none
  ·simp only[lg]
   exact Lim.opt' fun _=>hk _ _ _
 ·split
  ·exact .none
  ·exact Lim.opt' fun _=>Lim.guard (Lim.opt' fun _=>hk _ _ _)
 ·exact .none
theorem yn {h:OpHint}{t:TypeId}{a:LV}{f:Nat}{k:Nat→LV→Option β}{kω:LV→Option β}(hk: ∀c,Lim (fun n=>k n c) (kω c)):Lim (fun n=>eH P h t a f (k n)) (eH P h t a f kω):=by
 unfold eH
 refine Lim.opt' fun _=> ?_
 split
 ·exact hk _
 ·split
  ·exact Lim.opt' fun _=>qo fun _=>Lim.guard (hk _)
  ·exact Lim.opt' fun _=>hk _
 ·exact .none
theorem yo {h:OpHint}{t:TypeId}{a:LV}{i:Int}{k:Nat→LV→Option β}{kω:LV→Option β}(hk: ∀c,Lim (fun n=>k n c) (kω c)):Lim (fun n=>eI P h t a i (k n)) (eI P h t a i kω):=by
 unfold eI f7
 split
 ·refine Lim.opt' fun _=> ?_
  split
  ·exact Lim.guard (hk _)
  ·exact Lim.opt' fun _=>j7 fun _=>Lim.guard (hk _)
  ·split
   ·exact Lim.opt' fun _=>Lim.opt' fun _=>j7 fun _=>Lim.guard (hk _)
   ·exact Lim.opt' fun _=>Lim.guard (hk _)
  ·exact .none
 ·refine Lim.opt' fun _=> ?_
  split
  ·exact Lim.guard (hk _)
  ·split
   ·exact Lim.opt' fun _=>Lim.guard (Lim.guard (hk _))
   ·exact Lim.opt' fun _=>Lim.guard (hk _)
  ·exact .none
 ·exact .none
theorem HC {t:TypeId}{a:LV}{i:Int}{k:Nat→LV→Option β}{kω:LV→Option β}(hk: ∀c,Lim (fun n=>k n c) (kω c)):Lim (fun n=>jX P t a i (k n)) (jX P t a i kω):=by
 unfold jX f7
 split
 ·exact Lim.opt' fun _=>Lim.opt' fun _=>hk _
 ·split
  ·exact Lim.opt' fun _=>Lim.opt' fun _=>Lim.guard (Lim.opt' fun _=>j7 fun _=>hk _)
  ·exact .none
 ·exact .none
theorem ei {ev:Operand→LV}{x:Option Operand}{d:Int}{k:Nat→Int→Option β}{kω:Int→Option β}(hk: ∀c,Lim (fun n=>k n c) (kω c)):Lim (fun n=>cV ev x d (k n)) (cV ev x d kω):=by
 unfold cV
 cases x
 ·exact hk _
 ·exact Lim.opt' fun _=>hk _
theorem HD {t:TypeId}{x:LV}{lo hi:Option Operand}{ev:Operand→LV}{k:Nat→LV→Option β}{kω:LV→Option β}(hk: ∀c,Lim (fun n=>k n c) (kω c)):Lim (fun n=>gz P t x lo hi ev (k n)) (gz P t x lo hi ev kω):=by
 unfold gz
 split
 ·exact Lim.opt' fun _=>ei fun _=>ei fun _=>Lim.opt' fun _=>hk _
 ·refine Lim.opt' fun _=> ?_
  split
  ·exact Lim.opt' fun _=>ei fun _=>ei fun _=>Lim.guard (Lim.opt' fun _=>hk _)
  ·exact ei fun _=>ei fun _=>Lim.guard (Lim.opt' fun _=>hk _)
  ·exact ei fun _=>ei fun _=>Lim.guard (hk _)
  ·exact ei fun _=>ei fun _=>Lim.guard (hk _)
  ·exact .none
 ·exact .none
theorem De {h:OpHint}{t:TypeId}{xt:Option TypeId}{x y:LV}{s:S}{μ:Mu}{k:Nat→LV→S→Mu→Option β}{kω:LV→S→Mu→Option β}(hk: ∀v s μ,Lim (fun n=>k n v s μ) (kω v s μ)):Lim (fun n=>fg P h t xt x y s μ (k n)) (fg P h t xt x y s μ kω):=by
 unfold fg
 split
 ·refine Lim.opt' fun _=>Lim.guard (Lim.opt' fun _=>Lim.guard ?_)
  cases xt
  ·exact .none
  ·cases h.own
   ·refine Lim.opt' fun _=> ?_
    split
    ·exact Lim.opt' fun _=>Lim.guard (hk _ _ _)
    ·exact Lim.opt' fun _=>Lim.guard (hk _ _ _)
    ·exact .none
   ·refine Lim.opt' fun _=> ?_
    split
    ·exact Lim.opt' fun _=>Lim.opt' fun _=>Lim.guard (hk _ _ _)
    ·exact .none
 ·exact .none
theorem BF {h:OpHint}{src dst:TypeId}{x:LV}{s:S}{μ:Mu}{k:Nat→LV→S→Mu→Option β}{kω:LV→S→Mu→Option β}(hk: ∀v s μ,Lim (fun n=>k n v s μ) (kω v s μ)):Lim (fun n=>cZ P h src dst x s μ (k n)) (cZ P h src dst x s μ kω):=by
 unfold cZ
 split
 ·split
  ·exact Lim.opt' fun _=>hk _ _ _
  ·exact .none
 ·split
  ·exact Lim.opt' fun _=>hk _ _ _
  ·split
   ·split
    ·split
     ·exact Lim.guard (Lim.opt' fun _=>hk _ _ _)
     ·exact .none
    ·exact Lim.opt' fun _=>Lim.opt' fun _=>hk _ _ _
   ·exact .none
  ·exact .none
 ·split
  ·split
   ·refine Lim.opt' fun _=>Lim.guard ?_
    split
    ·exact hk _ _ _
    ·exact hk _ _ _
   ·exact .none
  ·exact .none
 ·exact .none
theorem sf {live:List (Nat×Nat)}{s:S}{k:Nat→S→Option β}{kω:S→Option β}(hk: ∀s,Lim (fun n=>k n s) (kω s)):Lim (fun n=>dH live s (k n)) (dH live s kω):=by
 unfold dH
 refine Lim.opt' fun _=> ?_
 cases s.pushed
 ·exact Lim.opt' fun _=>Lim.opt' fun _=>hk _
 ·exact hk _
theorem qq {L:Nat}{live:List (Nat×Nat)}{s:S}{k:Nat→S→Option β}{kω:S→Option β}(hk: ∀s,Lim (fun n=>k n s) (kω s)):Lim (fun n=>i6 L live s (k n)) (i6 L live s kω):=by
 unfold i6
 split
 ·exact hk _
 ·exact Lim.guard (hk _)
theorem Lim.optE {x:Option α}{k:Nat→α→Option β}{kω:α→Option β}{g:Nat→Option β}{gω:Option β}(hk: ∀a,Lim (fun n=>k n a) (kω a))(hg:Lim g gω):Lim (fun n=>Abs.optE x (k n) (g n)) (Abs.optE x kω gω):=by
 cases x with
 |none=>exact hg
 |some a=>exact hk a
theorem t7 {t:TypeId}{m x y:LV}{s:S}{μ:Mu}{k:Nat→LV→S→Mu→Option β}{kω:LV→S→Mu→Option β}(hk: ∀v s μ,Lim (fun n=>k n v s μ) (kω v s μ)):Lim (fun n=>gE P t m x y s μ (k n)) (gE P t m x y s μ kω):=by
 unfold gE
 refine Lim.opt' fun _=>Lim.opt' fun _=>Lim.opt' fun _=> ?_
 split
 ·split
  ·exact Lim.guard (hk _ _ _)
  ·exact .none
 ·split
  ·exact Lim.guard (hk _ _ _)
  ·exact .none
 ·exact .none
theorem Dg {t:TypeId}{m x:LV}{ok:Bool}{s:S}{μ:Mu}{k:Nat→LV→Option β}{kω:LV→Option β}(hk: ∀v,Lim (fun n=>k n v) (kω v)):Lim (fun n=>iB P t m x ok s μ (k n)) (iB P t m x ok s μ kω):=by
 unfold iB f7
 refine Lim.opt' fun _=>Lim.opt' fun _=>Lim.opt' fun _=>Lim.guard (Lim.optE (fun _=>j7 fun _=> ?_) (Lim.opt' fun _=> ?_))
 ·cases ok<;>exact hk _
 ·cases ok<;>exact hk _
theorem Df {x:LV}{t:TypeId}{ok:Bool}{k:Nat→LV→Option β}{kω:LV→Option β}(hk: ∀v,Lim (fun n=>k n v) (kω v)):Lim (fun n=>iv P x t ok (k n)) (iv P x t ok kω):=by
 unfold iv
 split
 ·exact .none
 ·split
  ·exact .none
  ·refine Lim.opt' fun _=> ?_
   split
   ·split<;>exact hk _
   ·exact hk _
   ·exact .none
 ·exact .none
theorem NP {op:BinOp}{t:TypeId}{x y:Operand}{a b:LV}{k:Nat→CV→Option β}{kω:CV→Option β}(hk: ∀c,Lim (fun n=>k n c) (kω c)):Lim (fun n=>nZ P op t x y a b (k n)) (nZ P op t x y a b kω):=by
 unfold nZ
 split
 ·exact Lim.opt' fun _=>Lim.opt' fun _=>Lim.opt' fun _=>hk _
 ·exact Lim.guard (Lim.opt' fun _=>hk _)
theorem j5: ∀{ms:List Nat} {cs:List LV} {k:Nat→List LV→Option β} {kω:List LV→Option β} (hk: ∀c,Lim (fun n=>k n c) (kω c)),Lim (fun n=>fm ms cs (k n)) (fm ms cs kω)
 |[],cs,k,kω,hk=>by unfold fm;exact hk _
 |m::ms,[],k,kω,hk=>by unfold fm;exact .none
 |m::ms,c::cs,k,kω,hk=>by
  unfold fm wA
  split
  ·exact j5 fun _=>hk _
  ·exact Lim.opt' fun _=>j5 fun _=>hk _
  ·exact Lim.opt' fun _=>j5 fun _=>hk _
  ·exact Lim.opt' fun _=>j5 fun _=>hk _
theorem nc: ∀{obs:List (Nat×List Nat)} {s:S} {k:Nat→S→Option β} {kω:S→Option β} (hk: ∀s,Lim (fun n=>k n s) (kω s)),Lim (fun n=>kO obs s (k n)) (kO obs s kω)
 |[],s,k,kω,hk=>by unfold kO;exact hk _
 |q::r,s,k,kω,hk=>by
  unfold kO
  split
  ·exact nc hk
  ·split
   ·exact j5 fun _=>nc hk
   ·exact .none
structure LimR (ρ:Nat→Rho) (ρω:Rho):Prop where
 call: ∀f args μ,Lim (fun n=>(ρ n).call f args μ) (ρω.call f args μ)
 loop: ∀H lv c s μ,Lim (fun n=>(ρ n).loop H lv c s μ) (ρω.loop H lv c s μ)
 seg: ∀H lv c s μ,Lim (fun n=>(ρ n).seg H lv c s μ) (ρω.seg H lv c s μ)
 dcall: ∀f pv args μ,Lim (fun n=>(ρ n).dcall f pv args μ) (ρω.dcall f pv args μ)
variable {ρ:Nat→Rho}{ρω:Rho}
theorem wX (R:LimR ρ ρω){h:OpHint}{t:TypeId}{f:FuncId}{args:List LV}{s:S}{μ:Mu}{k:Nat→LV→S→Mu→Option β}{kω:LV→S→Mu→Option β}{p:Nat→CV→S→Mu→Option β}{pω:CV→S→Mu→Option β}
  (hk: ∀v s μ,Lim (fun n=>k n v s μ) (kω v s μ)) (hp: ∀v s μ,Lim (fun n=>p n v s μ) (pω v s μ)):Lim (fun n=>fQ P (ρ n) h t f args s μ (k n) (p n)) (fQ P ρω h t f args s μ kω pω):=by
 unfold fQ
 split
 ·exact Lim.guard (Lim.callK (R.call _ _ _) (fun _ _=>j6 fun _=>hk _ _ _) fun _ _=>hp _ _ _)
 ·exact Lim.opt' fun _=>Lim.opt' fun _=>Lim.callK (R.call _ _ _) (fun _ _=>Lim.opt' fun _=>j6 fun _=>hk _ _ _) fun _ _=>Lim.opt' fun _=>hp _ _ _
theorem NQ (R:LimR ρ ρω){h:OpHint}{o:Oper}{s:S}{μ:Mu}{k:Nat→LV→S→Mu→Option β}{kω:LV→S→Mu→Option β}{p:Nat→CV→S→Mu→Option β}{pω:CV→S→Mu→Option β}
  (hk: ∀v s μ,Lim (fun n=>k n v s μ) (kω v s μ)) (hp: ∀v s μ,Lim (fun n=>p n v s μ) (pω v s μ)):Lim (fun n=>cK P (ρ n) h o s μ (k n) (p n)) (cK P ρω h o s μ kω pω):=by
 unfold cK
 dsimp only
 split
 ·exact hk _ _ _
 ·exact hk _ _ _
 ·exact Lim.opt' fun _=>hk _ _ _
 ·exact Lim.opt' fun _=>hk _ _ _
 ·exact Lim.opt' fun _=>hk _ _ _
 ·exact Lim.opt' fun _=>Lim.opt' fun _=>hk _ _ _
 ·split
  ·refine Lim.opt' fun _=>Lim.guard (Lim.opt' fun _=>Lim.opt' fun _=>Lim.opt' fun _=>Lim.guard (Lim.guard ?_))
   split
   ·exact hk _ _ _
   ·exact hk _ _ _
  ·exact .none
 ·exact LK hk
 ·exact HE hk
 ·exact Lim.opt' fun _=>Lim.guard (hk _ _ _)
 ·exact NP fun _=>hk _ _ _
 ·exact Lim.opt' fun _=>hk _ _ _
 ·exact BF hk
 ·split
  ·exact .none
  ·exact Lim.opt' fun _=>hk _ _ _
  ·exact .none
 ·split
  ·split
   ·exact hk _ _ _
   ·exact .none
  ·exact .none
 ·split
  ·exact HD fun _=>hk _ _ _
  ·exact .none
 ·exact yn fun _=>hk _ _ _
 ·exact Lim.opt' fun _=>hk _ _ _
 ·exact Lim.opt' fun _=>yo fun _=>hk _ _ _
 ·exact Lim.opt' fun _=>HC fun _=>hk _ _ _
 ·exact Lim.opt' fun _=>Lim.opt' fun _=>hk _ _ _
 ·split
  ·exact hp _ _ _
  ·exact .none
 ·exact Df fun _=>hk _ _ _
 ·split
  ·exact .none
  ·exact hk _ _ _
 ·exact t7 hk
 ·exact t7 hk
 ·exact Dg fun _=>hk _ _ _
 ·split
  ·split
   ·split
    ·exact Lim.opt' fun _=>hk _ _ _
    ·exact .none
   ·split
    ·exact De hk
    ·exact .none
   ·split
    ·exact Lim.opt' fun _=>Lim.opt' fun _=>hk _ _ _
    ·exact .none
   ·split
    ·exact Lim.opt' fun _=>Lim.opt' fun _=>hk _ _ _
    ·exact .none
   ·exact .none
  ·refine Lim.guard ?_
   split
   ·exact wX R hk hp
   ·exact wX R hk hp
   ·exact .none
  ·exact .none
 ·exact .none
theorem yp (R:LimR ρ ρω){h:OpHint}{o:Oper}{s:S}{μ:Mu}{k:Nat→LV→S→Mu→Option β}{kω:LV→S→Mu→Option β}{p:Nat→CV→S→Mu→Option β}{pω:CV→S→Mu→Option β}
  (hk: ∀v s μ,Lim (fun n=>k n v s μ) (kω v s μ)) (hp: ∀v s μ,Lim (fun n=>p n v s μ) (pω v s μ)):Lim (fun n=>opK P (ρ n) h o s μ (k n) (p n)) (opK P ρω h o s μ kω pω):=by
 unfold opK
 exact Lim.opt' fun _=>Lim.opt' fun _=>NQ R hk hp
theorem fH (R:LimR ρ ρω){H:Hints}{r:Nat}{ops:Array Oper}{p:Nat→CV→S→Mu→Option β}{pω:CV→S→Mu→Option β}(hp: ∀v s μ,Lim (fun n=>p n v s μ) (pω v s μ)):
  ∀(l:List Nat) {s:S} {μ:Mu} {k:Nat→S→Mu→Option β} {kω:S→Mu→Option β} (hk: ∀s μ,Lim (fun n=>k n s μ) (kω s μ)),Lim (fun n=>eM P (ρ n) H r ops l s μ (k n) (p n)) (eM P ρω H r ops l s μ kω pω)
 |[],s,μ,k,kω,hk=>by unfold eM;exact hk _ _
 |i::rest,s,μ,k,kω,hk=>by
  unfold eM
  cases ops[i]? with
  |none=>exact .none
  |some o=>
   dsimp only
   cases o.guard with
   |none=>exact yp R (fun _ _ _=>fH R hp rest hk) hp
   |some g=>
    refine Lim.opt' fun _=>Lim.opt' fun q=> ?_
    cases q with
    |none=>exact fH R hp rest hk
    |some b=>
    cases b<;>dsimp only[cond_true,cond_false]
    ·cases g.2
     ·exact yp R (fun _ _ _=>fH R hp rest hk) hp
     ·exact fH R hp rest hk
    ·cases g.2
     ·exact fH R hp rest hk
     ·exact yp R (fun _ _ _=>fH R hp rest hk) hp
theorem ep (R:LimR ρ ρω){H:Hints}: ∀(c:Code) {β:Type} {s:S} {μ:Mu} {k:Nat→St→Option β} {kω:St→Option β} (hk: ∀st,Lim (fun n=>k n st) (kω st)),Lim (fun n=>bP P (ρ n) H c s μ (k n)) (bP P ρω H c s μ kω)
 | .skip,β,s,μ,k,kω,hk=>by unfold bP;exact hk _
 | .region id ops draw,β,s,μ,k,kω,hk=>by
  unfold bP
  cases draw
  ·exact fH R (fun _ _ _=>hk _) _ fun _ _=>hk _
  ·exact Lim.guard (fH R (fun _ _ _=> .none) _ fun _ _=>hk _)
 | .seq x y,β,s,μ,k,kω,hk=>by
  unfold bP
  refine ep R x fun st=> ?_
  cases st
  ·dsimp only
   split
   ·exact ep R y hk
   ·exact nc fun _=>sf fun _=>qq fun _=>Lim.opt (R.seg _ _ _ _ _) hk
  ·exact hk _
  ·exact hk _
  ·exact hk _
 | .cond c x y,β,s,μ,k,kω,hk=>by
  unfold bP
  exact Lim.opt' fun _=>Lim.cond (ep R x hk) (ep R y hk)
 | .block id x,β,s,μ,k,kω,hk=>by
  unfold bP
  refine ep R x fun st=> ?_
  cases st
  ·exact hk _
  ·dsimp only
   split
   ·exact hk _
   ·exact hk _
  ·exact hk _
  ·exact hk _
 | .loop x,β,s,μ,k,kω,hk=>by
  unfold bP
  exact nc fun _=>sf fun _=>qq fun _=>Lim.opt (R.loop _ _ _ _ _) hk
 | .exit id,β,s,μ,k,kω,hk=>by unfold bP;exact hk _
 | .ret,β,s,μ,k,kω,hk=>by unfold bP;exact hk _
 | .rangeFunc ..,β,s,μ,k,kω,hk=>by unfold bP;exact .none
 | .scope ..,β,s,μ,k,kω,hk=>by unfold bP;exact .none
 | .label ..,β,s,μ,k,kω,hk=>by unfold bP;exact .none
 | .goto ..,β,s,μ,k,kω,hk=>by unfold bP;exact .none
 | .refuse ..,β,s,μ,k,kω,hk=>by unfold bP;exact .none
theorem wY (R:LimR ρ ρω){H:Hints}{lv:List (Nat×Nat)}{c:Code}{s:S}{μ:Mu}:Lim (fun n=>lP P (ρ n) H lv c s μ) (lP P ρω H lv c s μ):=by
 unfold lP
 refine ep R c fun st=> ?_
 cases st
 ·exact nc fun _=>sf fun _=>qq fun _=>R.loop _ _ _ _ _
 ·exact .const _
 ·exact .const _
 ·exact .const _
theorem BG (R:LimR ρ ρω){H:Hints}{lv:List (Nat×Nat)}{c:Code}{s:S}{μ:Mu}:Lim (fun n=>sM P (ρ n) H lv c s μ) (sM P ρω H lv c s μ):=by
 unfold sM
 refine ep R c fun st=> ?_
 exact .const _
theorem qp (R:LimR ρ ρω){t:Nat}{pv:Option CV}{s:S}{μ:Mu}{k:Nat→S→Mu→Option β}{kω:S→Mu→Option β}(hk: ∀s μ,Lim (fun n=>k n s μ) (kω s μ)):Lim (fun n=>jU (ρ n) t pv s μ (k n)) (jU ρω t pv s μ kω):=by
 unfold jU
 split
 ·exact Lim.opt' fun _=>Lim.opt' fun _=>Lim.opt (R.dcall _ _ _ _) fun _=>Lim.opt' fun _=>hk _ _
 ·exact .none
theorem HA (R:LimR ρ ρω){H:Hints}{fn:Func}{c:Code}{t:Nat}{args:List LV}{μ:Mu}:Lim (fun n=>oI P (ρ n) H fn c t args μ) (oI P ρω H fn c t args μ):=by
 unfold oI
 split
 ·split
  ·exact .none
  ·split
   ·exact .none
   ·refine Lim.guard (ep R _ fun st=> ?_)
    cases st with
    |norm s μ=>
     refine fH R (fun _ _ _=> .none) _ fun _ _=>Lim.guard (ep R _ fun st=> ?_)
     cases st with
     |norm s μ=>exact qp R fun _ _=> .const _
     |ret s μ=>exact qp R fun _ _=> .const _
     |panic v s μ=>exact qp R fun _ _=> .const _
     |exit i s μ=>exact .none
    |_=>exact .none
 ·exact .none
theorem HB (R:LimR ρ ρω){H:Hints}{fn:Func}{c:Code}{pv:Option CV}{args:List LV}{μ:Mu}:Lim (fun n=>oK P (ρ n) H fn c pv args μ) (oK P ρω H fn c pv args μ):=by
 unfold oK
 split
 ·split
  ·exact .none
  ·split
   ·exact .none
   ·refine Lim.guard (fH R (fun _ _ _=> .none) _ fun _ _=>ep R _ fun st=> .const _)
 ·exact .none
theorem qR (R:LimR ρ ρω){E:Env}{f:FuncId}{pv:Option CV}{args:List LV}{μ:Mu}:Lim (fun n=>gd E (ρ n) f pv args μ) (gd E ρω f pv args μ):=by
 unfold gd
 split
 ·split
  ·exact HB R
  ·exact .none
 ·exact .none
theorem se (R:LimR ρ ρω){E:Env}{f:FuncId}{args:List LV}{μ:Mu}:Lim (fun n=>aC E (ρ n) f args μ) (aC E ρω f args μ):=by
 unfold aC
 split
 ·exact .const _
 ·split
  ·split
   ·split
    ·unfold zZ
     refine Lim.guard (ep R _ fun st=> ?_)
     exact .const _
    ·exact HA R
   ·exact .none
  ·exact .none
end
open Classical in
noncomputable def nN {β:Type}(x:Nat→Option β):Option β:=if h: ∃r n,∀m,n≤m→x m=some r then some h.choose else none
theorem lK {β:Type}(x:Nat→Option β):Lim x (nN x):=by
 intro r h
 unfold nN at h
 split at h
 ·rename_i hh
  simp only[Option.some.injEq]at h
  subst h
  exact hh.choose_spec
 ·cases h
theorem nb {β:Type}{x:Nat→Option β}{r:β}(h: ∃n,∀m,n≤m→x m=some r):nN x=some r:=by
 have hh: ∃r n,∀m,n≤m→x m=some r:=⟨r,h⟩
 unfold nN
 rw[dif_pos hh]
 obtain⟨n,hn⟩:=h
 obtain⟨k,hk⟩:=hh.choose_spec
 rw[←hk (max n k) (by omega),hn (max n k) (by omega)]
noncomputable def ev (E:Env):Rho where
 call:=fun f args μ=>nN fun n=>(evn E n).call f args μ
 loop:=fun H lv c s μ=>nN fun n=>(evn E n).loop H lv c s μ
 seg:=fun H lv c s μ=>nN fun n=>(evn E n).seg H lv c s μ
 dcall:=fun f pv args μ=>nN fun n=>(evn E n).dcall f pv args μ
theorem wI (E:Env):LimR (evn E) (ev E):=⟨fun f args μ=>lK _,fun H lv c s μ=>lK _,fun H lv c s μ=>lK _,fun f pv args μ=>lK _⟩
theorem aJ {E:Env}{f:FuncId}{args:List LV}{μ:Mu}{out:Out}(h:aC E (ev E) f args μ=some out):(ev E).call f args μ=some out:=by
 obtain⟨n,hn⟩:=se (wI E) (E:=E) (f:=f) (args:=args) (μ:=μ) out h
 refine nb ⟨n+1,fun m hm=> ?_⟩
 obtain⟨q,rfl⟩: ∃q,m=q+1:=⟨m-1,by omega⟩
 exact hn q (by omega)
theorem Qr {E:Env}{H:Hints}{lv:List (Nat×Nat)}{c:Code}{s:S}{μ:Mu}{st:St}(h:lP E.P (ev E) H lv c s μ=some st):(ev E).loop H lv c s μ=some st:=by
 obtain⟨n,hn⟩:=wY (wI E) (P:=E.P) (H:=H) (lv:=lv) (c:=c) (s:=s) (μ:=μ) st h
 refine nb ⟨n+1,fun m hm=> ?_⟩
 obtain⟨q,rfl⟩: ∃q,m=q+1:=⟨m-1,by omega⟩
 exact hn q (by omega)
theorem RQ {E:Env}{H:Hints}{lv:List (Nat×Nat)}{c:Code}{s:S}{μ:Mu}{st:St}(h:sM E.P (ev E) H lv c s μ=some st):(ev E).seg H lv c s μ=some st:=by
 obtain⟨n,hn⟩:=BG (wI E) (P:=E.P) (H:=H) (lv:=lv) (c:=c) (s:=s) (μ:=μ) st h
 refine nb ⟨n+1,fun m hm=> ?_⟩
 obtain⟨q,rfl⟩: ∃q,m=q+1:=⟨m-1,by omega⟩
 exact hn q (by omega)
theorem Bu {E:Env}{f:FuncId}{pv:Option CV}{args:List LV}{μ μ':Mu}(h:gd E (ev E) f pv args μ=some μ'):(ev E).dcall f pv args μ=some μ':=by
 obtain⟨n,hn⟩:=qR (wI E) (E:=E) (f:=f) (pv:=pv) (args:=args) (μ:=μ) μ' h
 refine nb ⟨n+1,fun m hm=> ?_⟩
 obtain⟨q,rfl⟩: ∃q,m=q+1:=⟨m-1,by omega⟩
 exact hn q (by omega)
theorem Bv {E:Env}(hm:E.P.follows .mixedOrders=true){W0:World}(hp:tq E W0){f:FuncId}{args:List LV}{μ:Mu}{out:Out}(h:(ev E).call f args μ=some out):cG E.P W0 f args μ out:=by
 obtain⟨n,hn⟩:=lK _ out h
 exact(yT hm hp n).1 f args μ out (hn n (Nat.le_refl n))
end Go.Abs
set_option linter.unusedVariables false
set_option linter.unusedSimpArgs false
namespace Go.Abs
open Go Go.ChangeShapes Go.WideShapes
def Gh.top (w:World):Gh where
 O:=fun b=>match w.heap[b]? with|some (.cells cs _ _)=>cs.size|_=>0
 β:=fun _ _=>0
 n:=fun _=>0
 sz:=fun _ _=>0
def xU (W w':World):Prop:=W.keptBut w' (fun _=>False)∧(∀a:Addr,a.block<W.heap.size→w'.frozen? a=W.frozen? a)∧W.heap.size≤w'.heap.size∧ ∀b,b<W.heap.size→w'.heap[b]? =W.heap[b]?
theorem Qw {W w':World}(ho:w'.os=W.os)(hu:w'.output=W.output)(hs:W.heap.size≤w'.heap.size)(hk: ∀b,b<W.heap.size→w'.heap[b]? =W.heap[b]?):xU W w':=by
 refine⟨⟨ho,hu,fun i hi=> ?_⟩,fun a ha=> ?_,hs,hk⟩
 ·rw[hk i hi]
  cases W.heap[i]? with
  |none=>rfl
  |some o=>cases o<;>simp
 ·simp only[World.frozen?]
  rw[hk _ ha]
theorem Mo {H:Type}{enc:TypeId×Value→H}{P:Program}{f:Func}{s:ChangeSpec}{apart fresh handsOn again:Bool}{W W':World}{args:Array Value}{v:Value}{ds gs:List (DataW H)}{before pa pv:List MemPlace}
  (hW:DataW.Whole enc P f.params.toList s.vars apart W args.toList ds gs before)
  (hres: ∀(b:Nat) (sp:Nat→Bool) (hd:Bool),DataW.TrodAll enc P W' b sp hd f.resultTypes.toList (v.resultList f.resultTypes.size) (s.fn H (ds++gs)).results [])
  (hargs: ∀sp:Nat→Bool,(∀p∈before,sp p.block=true)→DataW.TrodAll enc P W' 0 sp true f.params.toList args.toList (s.fn H (ds++gs)).args pa)
  (hvars: ∀sp:Nat→Bool,(∀p∈before,sp p.block=true)→DataW.TrodVars enc P W' sp s.vars (s.fn H (ds++gs)).vars pv)
  (hps:before=pa++pv) (hk:xU W W')
  (hok: ∀(j:Nat) (t:TypeId) (r:Value),f.resultTypes[j]? =some t→(v.resultList f.resultTypes.size)[j]? =some r→Value.okWide P W' .any 0 t r):
  s.post enc P f apart fresh handsOn again W args v W':=by
 have hlt:=fun p hp=>hW.lt p hp
 have hold: ∀p∈before,(fun b=>decide (b<W.heap.size)) p.block=true:=fun p hp=>by simpa using hlt p hp
 refine⟨ds,gs,before,[],pa,pv,hW,hres _ _ _,hargs _ hold,hvars _ hold,World.keptBut_mono (fun _ f=>f.elim) hk.1,fun _=> ?_⟩
 obtain⟨_,_,_,_,_,hz,hn⟩:=hW
 refine⟨hok,_,_,([]++pa)++pv,⟨[]++pa,pv,trodAll_append (hargs _ (fun _ _=>rfl)) (hres _ _ _),hvars _ (fun _ _=>rfl),rfl,?_,?_⟩,?_⟩
 ·intro b off hp
  have hm:MemPlace.cell b off∈before:=by rw[hps];simpa using hp
  rw[hk.2.1 _ (hlt _ hm)]
  exact hz b off hm
 ·intro ha
  have:=hn ha
  rw[hps]at this
  simpa using this
 ·intro p hp _
  rw[hps]
  simpa using hp
section
variable {P:Program}{w:World}
theorem Rel.top {args:List CV}{cargs:Array Value}(hv: ∀j x,args[j]? =some x→VR (Gh.top w) w x (cargs.getD j undef)):Rel (Gh.top w) 0 (aN (args.map .cv)) [] cargs w∧ ∀b,¬az (Gh.top w) w (aN (args.map .cv)) [] cargs b:=by
 have hlive: ∀lev i,¬aK (aD ([]++[(aN (args.map .cv)).lam]) lev i):=by
  intro lev i h
  obtain⟨h1,_⟩:=kN (μ:=[]) h
  simp at h1
 have hown: ∀q b,¬ax (Gh.top w) w (aN (args.map .cv)).fr cargs ([]++[(aN (args.map .cv)).lam]) q b:=by
  intro q b h
  cases q with
  |fr t=>
   simp only[ax,cz,List.getElem?_map]at h
   cases hx:args[t]? with
   |none=>rw[hx]at h;simp[aE]at h
   |some x=>rw[hx]at h;simp[aE]at h
  |ob lev i k=>exact hlive lev i (fI h)
 refine⟨⟨rfl,fun t=> ?_,fun i=> ?_,fun lev i hl=>by omega,fun lev i lev' i' h _ _=>absurd h (hlive lev i),fun q q' b h _=>absurd h (hown q b),fun q b lev i h _ _=>hown q b h,fun lev hl=>by omega,?_,fun lev hl=>rfl⟩,?_⟩
 ·rw[cz,List.getElem?_map]
  cases hx:args[t]? with
  |none=>simp[LVR,VR]
  |some x=>simp only[Option.map_some,Option.getD_some,LVR];exact hv t x hx
 ·have:aH (aN (args.map .cv)).lam i= .dead:=by simp[aN,aH]
  rw[this];trivial
 ·simp[aN,Gh.top]
 ·rintro b (⟨q,h⟩|⟨lev,i,h,_⟩)
  ·exact hown q b h
  ·exact hlive lev i h
theorem cG.bool {f:FuncId}{args:List CV}{r:Bool}{μ':Mu}(hm:cG P w f (args.map .cv) [] (.ret (LV.bool r) μ')){cargs:Array Value}(hs:cargs.size=args.length)(hv: ∀j x,args[j]? =some x→VR (Gh.top w) w x (cargs.getD j undef)):
  Calls P f cargs w fun e w'=>e= .returned (.bool r)∧xU w w':=by
 obtain⟨R,hT⟩:=Rel.top hv
 refine(hm.2 (Gh.top w) w cargs (by simpa using hs) R ⟨Nat.le_refl _,fun b _=>⟨rfl,hT b⟩⟩).mono fun e w' h=> ?_
 cases e with
 |returned cv=>
  simp only[ff]at h
  obtain⟨O',R',E⟩:=h
  have h0:=R'.fr 0
  simp only[cz,List.getElem?_cons_zero,Option.getD_some,LVR,VR]at h0
  have:cv= .bool r:=by simpa using h0
  subst this
  exact⟨rfl,Qw E.os E.output E.size fun b hb=>(E.keep b hb (hT b)).1⟩
 |panicked ch=>simp[ff]at h
 |outgrown=>simp[ff]at h
end
end Go.Abs
set_option linter.unusedVariables false
namespace Go.Abs
open Go
inductive Kont where
 |seq (b:Code)
 |block (id:Nat)
def iQ (P:Program)(ρ:Rho)(H:Hints){α:Type}:List Kont→St→(St→Option α)→Option α
 |[],st,k=>k st
 | .seq b::κ,st,k=>match st with
  | .norm s μ=>match Ha (bH b) H.cuts with
   |none=>bP P ρ H b s μ fun st=>iQ P ρ H κ st k
   |some lv=>kO (tD (bH b) H.objs) s fun s=>dH lv.1 s fun s=>i6 μ.length lv.1 s fun s=>opt (ρ.seg H lv.2 b s μ) fun st=>iQ P ρ H κ st k
  | .exit i s μ=>iQ P ρ H κ (.exit i s μ) k
  | .ret s μ=>iQ P ρ H κ (.ret s μ) k
  | .panic v s μ=>iQ P ρ H κ (.panic v s μ) k
 | .block id::κ,st,k=>match st with
  | .exit i s μ=>match Nat.beq i id with|true=>iQ P ρ H κ (.norm s μ) k|false=>iQ P ρ H κ (.exit i s μ) k
  | .norm s μ=>iQ P ρ H κ (.norm s μ) k
  | .ret s μ=>iQ P ρ H κ (.ret s μ) k
  | .panic v s μ=>iQ P ρ H κ (.panic v s μ) k
def Qd (P:Program)(rs:List ResultVar)(st:St):Option Out:=
 match st with
 | .norm s μ=>fR P rs s μ
 | .ret s μ=>fR P rs s μ
 | .panic v _ μ=>aB (below μ.length v) (some (.panic v μ))
 | .exit _ _ _=>none
def OP (P:Program)(ρ:Rho)(H:Hints)(lv:List (Nat×Nat))(c:Code)(st:St):Option St:=
 match st with
 | .norm s μ=>kO (tD (bH c) H.objs) s fun s=>dH (H.lives (bH c)).1 s fun s=>i6 μ.length (H.lives (bH c)).1 s fun s=>ρ.loop H lv c s μ
 | .exit i s μ=>dH lv s fun s=>some (.exit i s μ)
 | .ret s μ=>dH H.res s fun s=>some (.ret s μ)
 | .panic v s μ=>dH H.pan s fun s=>some (.panic v s μ)
def S7 (H:Hints)(lv:List (Nat×Nat))(st:St):Option St:=
 match st with
 | .norm s μ=>dH lv s fun s=>some (.norm s μ)
 | .exit i s μ=>dH lv s fun s=>some (.exit i s μ)
 | .ret s μ=>dH H.res s fun s=>some (.ret s μ)
 | .panic v s μ=>dH H.pan s fun s=>some (.panic v s μ)
def vZ:Code→List Nat→Code
 |c,[]=>c
 | .seq a _,0::p=>vZ a p
 | .seq _ b,_::p=>vZ b p
 | .cond _ a _,0::p=>vZ a p
 | .cond _ _ b,_::p=>vZ b p
 | .block _ c,_::p=>vZ c p
 | .loop c,_::p=>vZ c p
 |c,_=>c
def RI (P:Program)(f:FuncId):Code:=match P.funcs[f]? with|some fn=>(match fn.body with|some c=>c|none=> .skip)|none=> .skip
def RO (P:Program)(f:FuncId)(p:List Nat):Code:=vZ (RI P f) p
def Am (P:Program)(f:FuncId):List ResultVar:=match P.funcs[f]? with|some fn=>fn.results.toList|none=>[]
def ol {α:Type}:List (Nat×List Nat)→Lam→(Lam→Option α)→Option α
 |[],l,k=>k l
 |q::r,l,k=>match aH l q.1 with
  | .cells cs=>fm q.2 cs fun cs=>ol r (l.set q.1 (.cells cs)) k
  |_=>none
def aW (l:List UInt8):List CV:=l.map fun b=> .v (.int .u8 (b.toNat:Int))
end Go.Abs
set_option linter.unusedVariables false
set_option linter.unusedSimpArgs false
namespace Go.Abs
open Go Go.RowKit
section
variable {P:Program}{W0:World}{G:Gh}{w w':World}{L:Nat}{μ:Mu}{s:S}{tm:Array Value}
theorem EG {p:Addr}{v:Value}(h:w.cell? p=some v):p.block<w.heap.size:=by
 by_cases hp:p.block<w.heap.size
 ·exact hp
 ·exfalso
  unfold World.cell? at h
  rw[Array.getElem?_eq_none (by omega)]at h
  simp at h
theorem FF {b:Nat}{o:Obj}(h:w.heap[b]? =some o):b<w.heap.size:=(Array.getElem?_eq_some_iff.1 h).1
theorem AM (hb:Below w.heap.size w w'):Le G w G w':=by
 refine⟨fun b es clk h h1=>⟨h,by rw[hb.block b (FF h1)];exact h1⟩,fun lev i h=>⟨h,rfl,rfl⟩,fun b off v h h1=>⟨h,?_⟩,fun b cur e fz h=>⟨cur,fz,?_,rfl⟩⟩
 ·rw[hb.cell (p:=⟨b,off,none⟩) (EG h1)];exact h1
 ·rw[hb.block b (FF h)];exact h
theorem Rel.later (R:Rel G L s μ tm w)(hb:Below w.heap.size w w'):Rel G L s μ tm w'∧(∀l b,ax G w' s.fr tm (μ++[s.lam]) l b→ax G w s.fr tm (μ++[s.lam]) l b):=
 R.frame (AM hb) (fun b h=>⟨hb.block b (R.touch_lt h),rfl⟩) (fun _ _ _=>⟨rfl,rfl⟩) rfl
theorem j9 {f:FuncId}{args:List LV}{v:LV}(hf: ∃fn c,P.funcs[f]? =some fn∧fn.body=some c∧(fn.name == "runtime.NumGoroutine")=false)
  (hc : ∀ (G : Gh) (w : World) (cargs : Array Value), cargs.size = args.length → (∀ j x, args[j]? = some x → LVR G w μ.length 0 x (cargs.getD j undef)) → W0.heap.size ≤ w.heap.size → (∀ b, b < W0.heap.size → w.heap[b]? = W0.heap[b]?) →
   Calls P f cargs w fun e w'=> ∃cv,e= .returned cv∧Below w.heap.size w w'∧LVR G w' μ.length 0 v cv∧ ∀b,¬aE v cv b):cG P W0 f args μ (.ret v μ):=by
 refine⟨hf,fun G w cargs hs R hkn=> ?_⟩
 refine(hc G w cargs hs (fun j x hx=> ?_) hkn.1 (fun b hb=>(hkn.2 b hb).1)).mono fun e w' h=> ?_
 ·have:=R.fr j
  rw[cz,hx]at this
  exact this
 ·obtain⟨cv,rfl,hb,hv,hno⟩:=h
  obtain⟨R1,hO⟩:=R.later hb
  have hob: ∀lev i,aD (μ++[(aN [v]).lam]) lev i=aD (μ++[(aN args).lam]) lev i:=fun _ _=>rfl
  have hown: ∀q b,ax (G.withO G.O) w' (aN [v]).fr #[cv] (μ++[(aN [v]).lam]) q b→ax G w' (aN args).fr cargs (μ++[(aN args).lam]) q b:=by
   intro q b h
   cases q with
   |fr t=>
    exfalso
    simp only[ax,cz]at h
    cases t with
    |zero=>exact hno b h
    |succ t=>simp[aE]at h
   |ob lev i k=>exact h
  refine⟨G.O,⟨R1.lev,fun t=> ?_,R1.lam,R1.mu,R1.inj,fun q q' b h h'=>R1.own q q' b (hown q b h) (hown q' b h'),fun q b lev i h h'=>R1.apart q b lev i (hown q b h) h',R1.nlt,R1.nL,R1.ngt⟩,?_⟩
  ·rw[cz]
   cases t with
   |zero=>exact hv
   |succ t=>simp[LVR,VR]
  ·refine⟨AM hb,hb.os,hb.tape,hb.output,hb.size,fun b hl _=>⟨hb.block b hl,rfl⟩,fun b h=> .inl ?_,fun _ _=>⟨fun _=>⟨rfl,rfl⟩,rfl⟩⟩
   rcases h with⟨q,h⟩|⟨lev,i,h,e⟩
   ·exact .inl ⟨q,hO q b (hown q b h)⟩
   ·exact .inr ⟨lev,i,h,e⟩
theorem tu {vals:List Value}{cargs:Array Value}(hs:cargs.size=(vals.map fun v=>LV.cv (.v v)).length)(hv: ∀j x,(vals.map fun v=>LV.cv (.v v))[j]? =some x→LVR G w L 0 x (cargs.getD j undef)):cargs=vals.toArray:=by
 simp only[List.length_map]at hs
 apply Array.ext
 ·simpa using hs
 ·intro j h1 h2
  have h3:j<vals.length:=by simpa using h2
  have:=hv j (.cv (.v vals[j])) (by simp[h3])
  simp only[LVR,VR,Array.getD_eq_getD_getElem?,Array.getElem?_eq_getElem h1,Option.getD_some]at this
  simpa using this
theorem HG {f:FuncId}{vals:List Value}{r:Value}(hf: ∃fn c,P.funcs[f]? =some fn∧fn.body=some c∧(fn.name == "runtime.NumGoroutine")=false)
  (hc: ∀w:World,W0.heap.size≤w.heap.size→(∀b,b<W0.heap.size→w.heap[b]? =W0.heap[b]?)→Calls P f vals.toArray w fun e w'=>e= .returned r∧Below w.heap.size w w'):
  cG P W0 f (vals.map fun v=>LV.cv (.v v)) μ (.ret (.cv (.v r)) μ):=by
 refine j9 hf fun G w cargs hs hv h1 h2=> ?_
 rw[tu hs hv]
 exact(hc w h1 h2).mono fun e w' ⟨h3,h4⟩=>⟨r,h3,h4,by simp[LVR,VR],fun b h=>by simp[aE]at h⟩
end
end Go.Abs
set_option linter.unusedVariables false
namespace Go.Abs
open Go
abbrev fO:=List LV→Mu→Option Out
def tF (g:List UInt8→Option LV):fO:=fun args μ=>opt (aA args) fun q=>opt (aO q.2) fun _=>opt (aL q.1) fun s=>opt (g s) fun v=>some (.ret v μ)
def fM (g:List UInt8→List UInt8→Option LV):fO:=fun args μ=>opt (aA args) fun q=>opt (aA q.2) fun r=>opt (aO r.2) fun _=>opt (aL q.1) fun s=>opt (aL r.1) fun t=>opt (g s t) fun v=>some (.ret v μ)
def Al (g:List UInt8→List UInt8→List UInt8→Option LV):fO:=fun args μ=>opt (aA args) fun q=>opt (aA q.2) fun r=>opt (aA r.2) fun z=>opt (aO z.2) fun _=>opt (aL q.1) fun s=>opt (aL r.1) fun t=>opt (aL z.1) fun u=>
 opt (g s t u) fun v=>some (.ret v μ)
def dA (s:List UInt8):Bool:=decide (s.length≤1000000)
def wv (s:List UInt8):Bool:=s.all fun b=>decide (b.toNat<128)
def qy:fO:=tF fun s=>aB (dA s) (some (LV.str (Lib.toUpperD s)))
def ww (err:TypeId)(s:List UInt8):LV:=match Lib.atoiAll s with
 | .ok v=> .ltup [LV.int .i64 v,.cv (.v .nilIface)]
 | .range=> .ltup [LV.int .i64 (Lib.atoiSat s),.cv (.iface err .undef)]
 |_=> .ltup [LV.int .i64 0,.cv (.iface err .undef)]
def Ak (err:TypeId):fO:=tF fun s=>aB (dA s) (some (ww err s))
def xh:fO:=fun args μ=>opt (aA args) fun q=>opt (aO q.2) fun _=>opt (aF .i64 q.1) fun n=>aB (decide (-9223372036854775808≤n)&&decide (n≤9223372036854775807)) (some (.ret (LV.str (Lib.itoa n)) μ))
def ml:fO:=fM fun s p=>some (LV.bool (Lib.hasPrefix s p))
def li:fO:=fM fun s p=>some (LV.str (Lib.trimPrefix s p))
def yw (s:List UInt8):Option UInt8:=match s with|[c]=>some c|_=>none
def nQ:fO:=fM fun s t=>opt (yw t) fun c=>aB (decide (c.toNat<128)) (some (LV.str (Lib.trimLeftB s c)))
def mm:fO:=fM fun s t=>opt (yw t) fun c=>aB (decide (c.toNat<128)&&dA s) (some (LV.str (Lib.trimRightB s c)))
def xg:fO:=fM fun s t=>aB (dA s) (some (LV.int .i64 (Lib.index s t)))
def nP:fO:=fM fun s t=>aB (dA s) (some (LV.bool (Lib.contains s t)))
def S2:fO:=fM fun s t=>aB (dA s) (some (.ltup [LV.str (Lib.cut s t).1,LV.str (Lib.cut s t).2.1,LV.bool (Lib.cut s t).2.2]))
def zk:fO:=fM fun s t=>aB (dA s&&dA t&&wv s&&wv t) (some (LV.int .i64 (Lib.indexAny s t)))
def lh:fO:=Al fun s old new=>aB (dA s&&dA new&&decide (1≤old.length)) (some (LV.str (Lib.replaceAll s old new)))
def gx (preds:FuncId→Option (UInt8→Bool)):fO:=fun args μ=>opt (aA args) fun q=>opt (aA q.2) fun r=>opt (aO r.2) fun _=>opt (aL q.1) fun s=>match r.1 with
 | .cv (.clo g [])=>opt (preds g) fun p=>some (.ret (LV.bool (s.any p)) μ)
 |_=>none
def iE (bt:TypeId):fO:=fun args μ=>opt (aA args) fun q=>opt (aO q.2) fun _=>match q.1 with
 | .cv (.tref lev i t n) => aB (Nat.beq t bt && Nat.beq n 2) (match a8 μ lev i with
  | .cells [a,b]=>match a with
   | .cv (.v (.pointer none))=>some (.ret (.ltup []) (bD μ lev i (.cells [.cv (.ref lev i 0),b])))
   | .cv (.ref l j 0)=>aB (Nat.beq l lev&&Nat.beq j i) (some (.ret (.ltup []) μ))
   |_=>none
  |_=>none)
 |_=>none
def o2 (bt:TypeId):fO:=fun args μ=>opt (aA args) fun q=>opt (aO q.2) fun _=>match q.1 with
 | .cv (.tref lev i t n) => aB (Nat.beq t bt && Nat.beq n 2) (match a8 μ lev i with
  | .cells [a,b]=>opt (eX b) fun xs=>opt (bk xs) fun s=>some (.ret (LV.str s) (bD μ lev i .dead))
  |_=>none)
 |_=>none
end Go.Abs
