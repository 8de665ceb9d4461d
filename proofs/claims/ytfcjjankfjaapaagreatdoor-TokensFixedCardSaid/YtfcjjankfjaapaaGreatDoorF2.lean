/-
  The statement TokensFixedCardSaid, proved; part 3 of 7 of its proof.
  What an operation looks at, and what it turns.
  What an operation turns, by its kind.
  What an operation turns: all of them.
  Two operations of a region, one before the other or the other way round.
  Two operations of a region change places.
  A region whose order is open: what comes out in the program's order comes out in every order.
  Only some variables are known from here on: the loop's head.
  Code, loops, calls: what the interpreter does, the machine does.
  Deferred calls; all functions together.
  The interpreter without fuel.
  From the interpreter to a law: a call from outside, with arguments that are only read.
  Places to stop at: the interpreter goes on from a state, with what is left to be done written out.
  Functions that are taken by contract: what a contract must say.
  What the library's functions answer that are taken by contract: by Go's texts, as functions of lists of bytes.
  The hints of each function, and what reads a struct. Printed by a program.
-/
import Derived.Test.YtfcjjankfjaapaaGreatDoorF1
import Derived.Recover
import Derived.ProofKit
import Derived.KernelRfl
import Derived.Below
import Derived.Lib.MapU
import Derived.Lib.AtoiAll
import Derived.Lib.ItoaNum
import Derived.Lib.IndexAny
import Derived.Lib.IndexMore
import Derived.Lib.Replace
import Derived.Lib.TrimByte
import Derived.Test.YtfcjjankfjaapaaGreatDoorProg
set_option linter.all false
set_option linter.unusedSectionVars false
set_option linter.unusedVariables false
set_option linter.unusedSimpArgs false
namespace Go.Abs
open Go
def Ag (h:OpHint)(o:Oper)(s t:S):Prop:= ∀x,x∈o.op.operands.toList→evA h t.fr x=evA h s.fr x
section
variable {P:Program}{ρ:Rho}{h:OpHint}{o:Oper}{s t:S}{μ ν:Mu}
theorem il {ev ev':Operand→LV}: ∀{l:List (Nat×Operand)},(∀q∈l,ev' q.2=ev q.2)→cU ev' l=cU ev l
 |[],_=>rfl
 |q::r,hq=>by
  simp only[cU]
  rw[hq q (by simp),il fun x hx=>hq x (List.mem_cons_of_mem _ hx)]
def bT (P:Program)(ρ:Rho)(h:OpHint)(o:Oper)(s t:S)(μ ν:Mu):Prop:=ba P ρ h o t ν=opt (ba P ρ h o s μ) fun q=>some (q.1,ac h.take t,ν)
theorem Dh {x:Operand}(ho:o.op= .move x∨o.op= .assign x)(ha:Ag h o s t):bT P ρ h o s t μ ν:=by
 have e:evA h t.fr x=evA h s.fr x:=ha x (by rcases ho with ho|ho<;>simp[ho,Op.operands])
 rcases ho with ho|ho<;>simp only[bT,ba,cm,ho,e,bm]
theorem LS {c x y:Operand}(ho:o.op= .pick c x y)(ha:Ag h o s t):bT P ρ h o s t μ ν:=by
 have e1:=ha c (by simp[ho,Op.operands])
 have e2:=ha x (by simp[ho,Op.operands])
 have e3:=ha y (by simp[ho,Op.operands])
 simp only[bT,ba,cm,ho,e1,e2,e3,aE,bm]
theorem JF {ty:TypeId}{parts:Array (Nat×Operand)}(ho:o.op= .build ty parts)(ha:Ag h o s t):bT P ρ h o s t μ ν:=by
 have e:cU (evA h t.fr) parts.toList=cU (evA h s.fr) parts.toList:=il fun q hq=>ha q.2 (by simp only[ho,Op.operands];simp;exact⟨q.1,by simpa using hq⟩)
 simp only[bT,ba,cm,ho,e,aE,bm]
theorem BJ {x:Operand}(ho:o.op= .nilCheck x)(ha:Ag h o s t):bT P ρ h o s t μ ν:=by
 have e:=ha x (by simp[ho,Op.operands])
 simp only[bT,ba,cm,ho,e,aE,bz,bm]
theorem JE {op:BinOp}{ty ty':TypeId}{x y:Operand}(ho:o.op= .binOp op ty x y ty')(ha:Ag h o s t):bT P ρ h o s t μ ν:=by
 have e1:=ha x (by simp[ho,Op.operands])
 have e2:=ha y (by simp[ho,Op.operands])
 simp only[bT,ba,cm,ho,e1,e2,y8,bm]
theorem LT {op:UnOp}{ty:TypeId}{x:Operand}(ho:o.op= .unOp op ty x)(ha:Ag h o s t):bT P ρ h o s t μ ν:=by
 have e:=ha x (by simp[ho,Op.operands])
 simp only[bT,ba,cm,ho,e,aE,bm]
theorem te {ty:TypeId}{x:Operand}(ho:o.op= .makeInterface ty x)(ha:Ag h o s t):bT P ρ h o s t μ ν:=by
 have e:=ha x (by simp[ho,Op.operands])
 simp only[bT,ba,cm,ho,e]
 split<;>simp only[aE,bm,er]
theorem zI {ty:TypeId}{x:Operand}{f:Nat}(ho:o.op= .fieldAddr ty x f)(ha:Ag h o s t):bT P ρ h o s t μ ν:=by
 have e:=ha x (by simp[ho,Op.operands])
 simp only[bT,ba,cm,ho,e,nh,bm]
theorem JG {ty:TypeId}{x:Operand}{f:Nat}(ho:o.op= .field ty x f)(ha:Ag h o s t):bT P ρ h o s t μ ν:=by
 have e:=ha x (by simp[ho,Op.operands])
 simp only[bT,ba,cm,ho,e,aE,bm]
theorem zJ {ty:TypeId}{x y:Operand}(ho:o.op= .indexAddr ty x y)(ha:Ag h o s t):bT P ρ h o s t μ ν:=by
 have e1:=ha x (by simp[ho,Op.operands])
 have e2:=ha y (by simp[ho,Op.operands])
 simp only[bT,ba,cm,ho,e1,e2,aE,ni,bm]
theorem JH {ty:TypeId}{x y:Operand}(ho:o.op= .index ty x y)(ha:Ag h o s t):bT P ρ h o s t μ ν:=by
 have e1:=ha x (by simp[ho,Op.operands])
 have e2:=ha y (by simp[ho,Op.operands])
 simp only[bT,ba,cm,ho,e1,e2,aE,ui,bm]
theorem Fa {x:Operand}{i:Nat}(ho:o.op= .extract x i)(ha:Ag h o s t):bT P ρ h o s t μ ν:=by
 have e:=ha x (by simp[ho,Op.operands])
 simp only[bT,ba,cm,ho,e,aE,bm]
theorem pY {β:Type}{ev ev':Operand→LV}{x:Option Operand}{d:Int}{f:Int→Option β}(h: ∀y,x=some y→ev' y=ev y):cP ev' x d f=cP ev x d f:=by
 cases x with
 |none=>rfl
 |some y=>simp only[cP,h y rfl]
theorem zW {β:Type}{ty:TypeId}{x:LV}{lo hi:Option Operand}{ev ev':Operand→LV}{f:LV→Option β}(h1: ∀y,lo=some y→ev' y=ev y)(h2: ∀y,hi=some y→ev' y=ev y):fT P ty x lo hi ev' f=fT P ty x lo hi ev f:=by
 unfold fT
 simp only[pY h1,pY h2]
theorem JI {ty:TypeId}{x:Operand}{lo hi mx:Option Operand}(ho:o.op= .slice ty x lo hi mx)(ha:Ag h o s t):bT P ρ h o s t μ ν:=by
 have e:=ha x (by simp[ho,Op.operands])
 have e1: ∀y,lo=some y→evA h t.fr y=evA h s.fr y:=fun y hy=>ha y (by simp[ho,Op.operands,hy])
 have e2: ∀y,hi=some y→evA h t.fr y=evA h s.fr y:=fun y hy=>ha y (by simp[ho,Op.operands,hy])
 simp only[bT,ba,cm,ho,e]
 cases mx with
 |none=>simp only[zW e1 e2,uj,bm]
 |some m=>rfl
theorem wW {ty:TypeId}{len:Nat}{parts:Array (Nat×Operand)}(ho:o.op= .buildSlice ty len parts)(hr:h.arr=false)(ha:Ag h o s t):bT P ρ h o s t μ ν:=by
 have e:cU (evA h t.fr) parts.toList=cU (evA h s.fr) parts.toList:=il fun q hq=>ha q.2 (by simp only[ho,Op.operands];simp;exact⟨q.1,by simpa using hq⟩)
 simp only[bT,ba,cm,ho,e,hr]
 split<;>simp only[aE,bz,bm,er]
theorem BI {fn:Fn}{first captured:Array Operand}(ho:o.op= .makeFunc fn first captured)(ha:Ag h o s t):bT P ρ h o s t μ ν:=by
 have e:(captured.toList.map fun x=>strip1 (evA h t.fr x))=captured.toList.map fun x=>strip1 (evA h s.fr x):=List.map_congr_left fun x hx=>by rw[ha x (by simp[ho,Op.operands];right;simpa using hx)]
 simp only[bT,ba,cm,ho,e]
 split
 ·split<;>rfl
 ·rfl
theorem wP {β:Type}{ty:TypeId}{xt:Option TypeId}{x y:LV}{f:LV→S→Mu→Option β}:ez P h ty xt x y t ν f=ez P h ty xt x y s μ fun v _ _=>f v t ν:=by
 unfold ez
 rfl
theorem E9 {c:Call}{b:Builtin}(ho:o.op= .call c)(hc:c.callee= .builtin b)(ha:Ag h o s t):bT P ρ h o s t μ ν:=by
 have hm: ∀x,x∈c.args.toList→evA h t.fr x=evA h s.fr x:=fun x hx=>ha x (by simp[ho,Op.operands,Call.operands,hc];simpa using hx)
 simp only[bT,ba,cm,ho,hc]
 split
 ·split
  ·rename_i x ty hx _
   rw[hm x (by rw[hx];simp)]
   simp only[aE,bm]
  ·rfl
 ·split
  ·rename_i x y ty xt hx _
   rw[hm x (by rw[hx];simp),hm y (by rw[hx];simp),rA]
   simp only[bm]
   exact wP
  ·rfl
 ·split
  ·rename_i x y hx
   rw[hm x (by rw[hx];simp),hm y (by rw[hx];simp)]
   simp only[aE,bm]
  ·rfl
 ·split
  ·rename_i x y hx
   rw[hm x (by rw[hx];simp),hm y (by rw[hx];simp)]
   simp only[aE,bm]
  ·rfl
 ·rfl
end
end Go.Abs
set_option linter.unusedVariables false
set_option linter.unusedSimpArgs false
namespace Go.Abs
open Go
section
variable {P:Program}{ρ:Rho}{h:OpHint}{o:Oper}{s t s':S}{μ ν μ':Mu}{v:LV}
def dj (k:Kind)(s t:S)(μ ν:Mu):Prop:=
 match k with
 | .plain=>True
 | .rd=> ∀i,aJ (aF s.lam i)→aF t.lam i=aF s.lam i
 | .wr=>t.lam=s.lam
 | .ap=>t.lam.length=s.lam.length
 | .look=>ν=μ∧t.pushed=s.pushed
 | .ou=>ν=μ∧t.pushed=s.pushed
 | .all=>t.lam=s.lam∧t.pushed=s.pushed∧ν=μ
def Eff (P:Program)(ρ:Rho)(h:OpHint)(o:Oper)(k:Kind)(s t:S)(μ ν:Mu)(v:LV)(s':S)(μ':Mu):Prop:=
 match k with
 | .plain=>s'=ac h.take s∧μ'=μ∧ba P ρ h o t ν=some (v,ac h.take t,ν)
 | .rd=>s'=ac h.take s∧μ'=μ∧ba P ρ h o t ν=some (v,ac h.take t,ν)
 | .wr=> ∃lam',s'={ac h.take s with lam:=lam'}∧μ'=μ∧ba P ρ h o t ν=some (v,{ac h.take t with lam:=lam'},ν)
 | .ap=> ∃ob,s'={ac h.take s with lam:=s.lam++[ob]}∧μ'=μ∧ba P ρ h o t ν=some (v,{ac h.take t with lam:=t.lam++[ob]},ν)
 | .look=>s'=ac h.take s∧μ'=μ∧ba P ρ h o t ν=some (v,ac h.take t,ν)
 | .ou=>s'=ac h.take s∧ba P ρ h o t ν=some (v,ac h.take t,μ')
 | .all=>s'.fr=(ac h.take s).fr∧ba P ρ h o t ν=some (v,{s' with fr:=(ac h.take t).fr},μ')
theorem Ag.self:Ag h o s s:=fun _ _=>rfl
theorem GP (hp: ∀t ν,Ag h o s t→bT P ρ h o s t μ ν)(ha:Ag h o s t)(hst:ba P ρ h o s μ=some (v,s',μ')):Eff P ρ h o .plain s t μ ν v s' μ':=by
 have h1:=hp s μ Ag.self
 have h2:=hp t ν ha
 unfold bT at h1 h2
 rw[hst,bm]at h1 h2
 simp only[Option.some.injEq,Prod.mk.injEq,true_and]at h1
 exact⟨h1.1,h1.2,h2⟩
theorem BD {ty:TypeId}{ob:Ob}{off:Nat}{w:LV}(h:bv P ty ob off=some w):aJ ob:=by
 unfold bv at h
 obtain⟨_,_,h⟩:=ab.1 h
 cases ob<;>first|trivial|simp[nj]at h
theorem IH {ty:TypeId}{x:Operand}(ho:o.op= .load ty x)(ha:Ag h o s t)(hc:dj (aR h o) s t μ ν)(hst:ba P ρ h o s μ=some (v,s',μ')):Eff P ρ h o (aR h o) s t μ ν v s' μ':=by
 have e:=ha x (by simp[ho,Op.operands])
 have l1:=aQ h.take s
 have l2:=aQ h.take t
 have hs1:ba P ρ h o s μ=fH P h ty (evA h s.fr x) (ac h.take s) μ fun v s μ=>some (v,s,μ):=by simp only[ba,cm,ho]
 have ht1:ba P ρ h o t ν=fH P h ty (evA h s.fr x) (ac h.take t) ν fun v s μ=>some (v,s,μ):=by simp only[ba,cm,ho,e]
 rw[hs1]at hst
 unfold Eff
 rw[ht1]
 clear hs1 ht1 e ha
 simp only[aR,ho]at hc ⊢
 unfold fH at hst ⊢
 generalize evA h s.fr x=q at hst ⊢
 cases hou:h.outer with
 |false=>
  simp only[hou]at hc hst ⊢
  cases hce:h.cell with
  |false=>
   simp only[hce,dj]at hc hst ⊢
   cases q with
   |loc i off=>
    dsimp only at hst ⊢
    obtain⟨w,h1,h2⟩:=ab.1 hst
    obtain⟨y,h3,_⟩:=o5 h2
    simp only[Option.some.injEq,Prod.mk.injEq]at h3
    obtain⟨rfl,rfl,rfl⟩:=h3
    refine⟨rfl,rfl,ab.2 ⟨w,?_,?_⟩⟩
    ·rw[l1.1]at h1
     rw[l2.1,hc i (BD h1)]
     exact h1
    ·have:(iM P h.arr ty w fun v=>some (v,ac h.take t,ν))=opt (iM P h.arr ty w fun v=>some (v,ac h.take s,μ)) fun q=>some (q.1,ac h.take t,ν):=by
      rw[rC]
      rfl
     rw[this,h2]
     rfl
   |cv c=>
    dsimp only at hst ⊢
    obtain⟨cs,h1,h2⟩:=ab.1 hst
    obtain⟨c',h3,h4⟩:=ab.1 h2
    simp only[Option.some.injEq,Prod.mk.injEq]at h4
    obtain⟨rfl,rfl,rfl⟩:=h4
    exact⟨rfl,rfl,ab.2 ⟨cs,h1,ab.2 ⟨c',h3,rfl⟩⟩⟩
   |osl _=>cases hst
   |lsl _ _ _=>cases hst
   |lclo _ _=>cases hst
   |mloc _=>cases hst
   |tloc _ _ _=>cases hst
   |ltup _=>cases hst
  |true=>
   simp only[hce,dj]at hc hst ⊢
   cases q with
   |loc i off=>
    dsimp only at hst ⊢
    obtain⟨w,h1,h2⟩:=ab.1 hst
    simp only[Option.some.injEq,Prod.mk.injEq]at h2
    obtain⟨rfl,rfl,rfl⟩:=h2
    refine⟨_,rfl,rfl,ab.2 ⟨w,?_,?_⟩⟩
    ·rw[l2.1,hc,←l1.1];exact h1
    ·rw[l2.1,hc,←l1.1]
   |cv c=>
    dsimp only at hst ⊢
    obtain⟨cs,h1,h2⟩:=ab.1 hst
    obtain⟨c',h3,h4⟩:=ab.1 h2
    simp only[Option.some.injEq,Prod.mk.injEq]at h4
    obtain⟨rfl,rfl,rfl⟩:=h4
    refine⟨s.lam,by rw[←l1.1],rfl,ab.2 ⟨cs,h1,ab.2 ⟨c',h3,?_⟩⟩⟩
    rw[←hc,←l2.1]
   |osl _=>cases hst
   |lsl _ _ _=>cases hst
   |lclo _ _=>cases hst
   |mloc _=>cases hst
   |tloc _ _ _=>cases hst
   |ltup _=>cases hst
 |true=>
  have hc':ν=μ∧t.pushed=s.pushed:=by
   cases hce:h.cell<;>simpa only[hou,hce,dj]using hc
  clear hc
  obtain⟨rfl,hpu⟩:=hc'
  simp only[hou]at hst ⊢
  cases q with
  |cv c=>
   dsimp only at hst ⊢
   obtain⟨q,h1,hst⟩:=ab.1 hst
   have k1:s'=ac h.take s∧(h.cell=false→μ'=ν):=by
    cases hce:h.cell with
    |false=>
     simp only[hce]at hst
     obtain⟨w,h2,hst⟩:=ab.1 hst
     obtain⟨y,h3,_⟩:=dO hst
     simp only[Option.some.injEq,Prod.mk.injEq]at h3
     exact⟨h3.2.1.symm,fun _=>h3.2.2.symm⟩
    |true=>
     simp only[hce]at hst
     obtain⟨w,h2,hst⟩:=ab.1 hst
     obtain⟨y,h3,_⟩:=dO hst
     simp only[Option.some.injEq,Prod.mk.injEq]at h3
     exact⟨h3.2.1.symm,fun h=>by cases h⟩
   have k2:fH P h ty (LV.cv c) (ac h.take t) ν (fun v s μ=>some (v,s,μ))=some (v,ac h.take t,μ'):=by
    simp only[fH,hou]
    refine ab.2 ⟨q,h1,?_⟩
    have key: ∀{own:Bool} {w:LV} {m:Mu},(cX P own ty w fun v=>some (v,ac h.take s,m))=some (v,s',μ')→(cX P own ty w fun v=>some (v,ac h.take t,m))=some (v,ac h.take t,μ'):=by
     intro own w m hk
     have:(cX P own ty w fun v=>some (v,ac h.take t,m))=opt (cX P own ty w fun v=>some (v,ac h.take s,m)) fun q=>some (q.1,ac h.take t,q.2.2):=by
      rw[gQ]
      rfl
     rw[this,hk]
     rfl
    cases hce:h.cell with
    |false=>
     simp only[hce]at hst ⊢
     obtain⟨w,h2,hst⟩:=ab.1 hst
     exact ab.2 ⟨w,h2,key hst⟩
    |true=>
     simp only[hce]at hst ⊢
     obtain⟨w,h2,hst⟩:=ab.1 hst
     exact ab.2 ⟨w,h2,key hst⟩
   simp only[fH,hou]at k2
   cases hce:h.cell with
   |false=>
    have e:=k1.2 hce
    subst e
    exact⟨k1.1,rfl,by simpa only[hce]using k2⟩
   |true=>exact⟨k1.1,by simpa only[hce]using k2⟩
  |loc i off=>cases hst
  |osl _=>cases hst
  |lsl _ _ _=>cases hst
  |lclo _ _=>cases hst
  |mloc _=>cases hst
  |tloc _ _ _=>cases hst
  |ltup _=>cases hst
theorem GQ {ty:TypeId}{x y:Operand}(ho:o.op= .store ty x y)(ha:Ag h o s t)(hc:dj (aR h o) s t μ ν)(hst:ba P ρ h o s μ=some (v,s',μ')):Eff P ρ h o (aR h o) s t μ ν v s' μ':=by
 have e1:=ha x (by simp[ho,Op.operands])
 have e2:=ha y (by simp[ho,Op.operands])
 have l1:=aQ h.take s
 have l2:=aQ h.take t
 have hs1:ba P ρ h o s μ=fV P h ty (evA h s.fr x) (evA h s.fr y) (ac h.take s) μ fun v s μ=>some (v,s,μ):=by simp only[ba,cm,ho]
 have ht1:ba P ρ h o t ν=fV P h ty (evA h s.fr x) (evA h s.fr y) (ac h.take t) ν fun v s μ=>some (v,s,μ):=by simp only[ba,cm,ho,e1,e2]
 rw[hs1]at hst
 unfold Eff
 rw[ht1]
 clear hs1 ht1 e1 e2 ha
 simp only[aR,ho]at hc ⊢
 unfold fV at hst ⊢
 generalize evA h s.fr x=q at hst ⊢
 generalize evA h s.fr y=u at hst ⊢
 cases hou:h.outer with
 |false=>
  simp only[hou,dj]at hc hst ⊢
  cases q with
  |loc i off=>
   dsimp only at hst ⊢
   rw[jR]at hst ⊢
   obtain⟨w,h1,h2⟩:=ab.1 hst
   simp only[Option.some.injEq,Prod.mk.injEq]at h2
   obtain⟨rfl,rfl,rfl⟩:=h2
   refine⟨_,rfl,rfl,ab.2 ⟨w,?_,?_⟩⟩
   ·rw[l2.1,hc,←l1.1];exact h1
   ·rw[l2.1,hc,←l1.1]
  |cv c=>cases hst
  |osl _=>cases hst
  |lsl _ _ _=>cases hst
  |lclo _ _=>cases hst
  |mloc _=>cases hst
  |tloc _ _ _=>cases hst
  |ltup _=>cases hst
 |true=>
  simp only[hou,dj]at hc hst ⊢
  obtain⟨rfl,hpu⟩:=hc
  cases q with
  |cv c=>
   dsimp only at hst ⊢
   obtain⟨q,h1,h2⟩:=ab.1 hst
   obtain⟨h3,h4⟩:=aI.1 h2
   obtain⟨w,h5,h6⟩:=ab.1 h4
   simp only[Option.some.injEq,Prod.mk.injEq]at h6
   obtain⟨rfl,rfl,rfl⟩:=h6
   exact⟨rfl,ab.2 ⟨q,h1,aI.2 ⟨h3,ab.2 ⟨w,h5,rfl⟩⟩⟩⟩
  |loc i off=>cases hst
  |osl _=>cases hst
  |lsl _ _ _=>cases hst
  |lclo _ _=>cases hst
  |mloc _=>cases hst
  |tloc _ _ _=>cases hst
  |ltup _=>cases hst
theorem GO {ty:TypeId}(ho:o.op= .alloc ty)(hc:dj (aR h o) s t μ ν)(hst:ba P ρ h o s μ=some (v,s',μ')):Eff P ρ h o (aR h o) s t μ ν v s' μ':=by
 have l1:=aQ h.take s
 have l2:=aQ h.take t
 simp only[aR,ho,dj]at hc
 simp only[aR,ho,Eff]
 simp only[ba,cm,ho]at hst ⊢
 obtain⟨w,h1,h2⟩:=ab.1 hst
 simp only[Option.some.injEq,Prod.mk.injEq]at h2
 obtain⟨rfl,rfl,rfl⟩:=h2
 refine⟨_,by rw[l1.1],rfl,ab.2 ⟨w,h1,?_⟩⟩
 rw[l1.1,l2.1,hc]
theorem Lc {ty:TypeId}{x:Operand}(ho:o.op= .box ty x)(ha:Ag h o s t)(hc:dj (aR h o) s t μ ν)(hst:ba P ρ h o s μ=some (v,s',μ')):Eff P ρ h o (aR h o) s t μ ν v s' μ':=by
 have e:=ha x (by simp[ho,Op.operands])
 have l1:=aQ h.take s
 have l2:=aQ h.take t
 simp only[aR,ho,dj]at hc
 simp only[aR,ho,Eff]
 simp only[ba,cm,ho,e]at hst ⊢
 obtain⟨w,h1,h2⟩:=ab.1 hst
 simp only[Option.some.injEq,Prod.mk.injEq]at h2
 obtain⟨rfl,rfl,rfl⟩:=h2
 refine⟨_,by rw[l1.1],rfl,ab.2 ⟨w,h1,?_⟩⟩
 rw[l1.1,l2.1,hc]
theorem vf {ty:TypeId}{len:Nat}{parts:Array (Nat×Operand)}(ho:o.op= .buildSlice ty len parts)(hr:h.arr=true)(ha:Ag h o s t)(hc:dj (aR h o) s t μ ν)(hst:ba P ρ h o s μ=some (v,s',μ')):Eff P ρ h o (aR h o) s t μ ν v s' μ':=by
 have e:cU (evA h t.fr) parts.toList=cU (evA h s.fr) parts.toList:=il fun q hq=>ha q.2 (by simp only[ho,Op.operands];simp;exact⟨q.1,by simpa using hq⟩)
 have l1:=aQ h.take s
 have l2:=aQ h.take t
 simp only[aR,ho,hr,dj]at hc
 simp only[aR,ho,hr,Eff]
 simp only[ba,cm,ho,e,hr]at hst ⊢
 split at hst<;>try(cases hst;done)
 obtain⟨sz,h1,hst⟩:=ab.1 hst
 obtain⟨h2,hst⟩:=aI.1 hst
 obtain⟨z,h3,hst⟩:=ab.1 hst
 obtain⟨ps,h4,hst⟩:=ab.1 hst
 obtain⟨xs,h5,hst⟩:=ab.1 hst
 obtain⟨h6,hst⟩:=aI.1 hst
 obtain⟨h7,hst⟩:=aI.1 hst
 simp only[Option.some.injEq,Prod.mk.injEq]at hst
 obtain⟨rfl,rfl,rfl⟩:=hst
 refine⟨_,by rw[l1.1],rfl,ab.2 ⟨sz,h1,aI.2 ⟨h2,ab.2 ⟨z,h3,ab.2 ⟨ps,h4,ab.2 ⟨xs,h5,aI.2 ⟨h6,aI.2 ⟨h7,?_⟩⟩⟩⟩⟩⟩⟩⟩
 rw[l1.1,l2.1,hc]
theorem u5 {β:Type}{src dst:TypeId}{q:LV}{f:LV→S→Mu→Option β}(hr:h.arr=false)(hq: ∀id off len,q≠ .lsl id off len):
  cJ P h src dst q t ν f=cJ P h src dst q s μ fun v _ _=>f v t ν:=by
 unfold cJ
 simp only[hr]
theorem Av {src dst:TypeId}{x:Operand}(ho:o.op= .convert src dst x)(hr:h.arr=false)(ha:Ag h o s t)(hc:dj (aR h o) s t μ ν)(hst:ba P ρ h o s μ=some (v,s',μ')):Eff P ρ h o (aR h o) s t μ ν v s' μ':=by
 have e:=ha x (by simp[ho,Op.operands])
 have l1:=aQ h.take s
 have l2:=aQ h.take t
 have hs1:ba P ρ h o s μ=cJ P h src dst (evA h s.fr x) (ac h.take s) μ fun v s μ=>some (v,s,μ):=by simp only[ba,cm,ho]
 have ht1:ba P ρ h o t ν=cJ P h src dst (evA h s.fr x) (ac h.take t) ν fun v s μ=>some (v,s,μ):=by simp only[ba,cm,ho,e]
 rw[hs1]at hst
 unfold Eff
 rw[ht1]
 clear hs1 ht1 e ha
 simp only[aR,ho,hr,dj]at hc ⊢
 generalize evA h s.fr x=q at hst ⊢
 by_cases hq: ∀id off len,q≠ .lsl id off len
 ·have key: ∀(t:S) (ν:Mu),(cJ P h src dst q t ν fun v s μ=>some (v,s,μ))=opt (cJ P h src dst q (ac h.take s) μ fun v s μ=>some (v,s,μ)) fun a=>some (a.1,t,ν):=by
   intro t ν
   rw[ql]
   exact u5 hr hq
  have h1:=key (ac h.take s) μ
  rw[hst,bm]at h1
  simp only[Option.some.injEq,Prod.mk.injEq,true_and]at h1
  refine⟨h1.1,h1.2,?_⟩
  rw[key,hst]
  rfl
 ·obtain⟨id,off,len,rfl⟩: ∃id off len,q= .lsl id off len:=by
   cases q<;>first|exact⟨_,_,_,rfl⟩|(exfalso;apply hq;intro _ _ _ hh;cases hh)
  unfold cJ at hst ⊢
  simp only[hr]at hst ⊢
  split at hst
  ·split at hst<;>cases hst
  ·rename_i hu
   split at hst
   ·cases hst
   ·rename_i e' hu'
    split at hst<;>try(cases hst;done)
    rename_i hue
    split at hst<;>try(cases hst;done)
    rename_i sz cs hob
    obtain⟨h1,hst⟩:=aI.1 hst
    obtain⟨l,h2,hst⟩:=ab.1 hst
    simp only[Option.some.injEq,Prod.mk.injEq]at hst
    obtain⟨rfl,rfl,rfl⟩:=hst
    rw[l1.1]at hob
    have hob2:aF (ac h.take t).lam id= .arr sz cs:=by
     rw[l2.1,hc id (by rw[hob];trivial)];exact hob
    refine⟨rfl,rfl,?_⟩
    simp only[hob2]
    exact aI.2 ⟨h1,ab.2 ⟨l,h2,rfl⟩⟩
   ·cases hst
  ·split at hst
   ·split at hst<;>cases hst
   ·cases hst
  ·cases hst
theorem IG {c:Call}{fx:Operand}(ho:o.op= .call c)(hc0:c.callee= .value fx)(hp:h.push=false)(ha:Ag h o s t)(hc:dj (aR h o) s t μ ν)(hst:ba P ρ h o s μ=some (v,s',μ')):Eff P ρ h o (aR h o) s t μ ν v s' μ':=by
 have e1:=ha fx (by simp[ho,Op.operands,Call.operands,hc0])
 have em:c.args.toList.map (evA h t.fr)=c.args.toList.map (evA h s.fr):=List.map_congr_left fun x hx=>ha x (by simp[ho,Op.operands,Call.operands,hc0];right;simpa using hx)
 have l1:=aQ h.take s
 have l2:=aQ h.take t
 simp only[aR,ho,hc0,hp,dj]at hc
 simp only[aR,ho,hc0,hp,Eff]
 obtain⟨rfl,hpu⟩:=hc
 have key: ∀(f:FuncId) (args:List LV),(fc P ρ h o.type f args (ac h.take s) ν (fun v s μ=>some (v,s,μ)) fun _ _ _=>none)=some (v,s',μ')→
   s'=ac h.take s∧(fc P ρ h o.type f args (ac h.take t) ν (fun v s μ=>some (v,s,μ)) fun _ _ _=>none)=some (v,ac h.take t,μ'):=by
  intro f args hk
  unfold fc at hk ⊢
  simp only[hp]at hk ⊢
  obtain⟨h1,hk⟩:=aI.1 hk
  have h1':(!(ac h.take t).pushed&&eN args)=true:=by rw[l2.2,hpu,←l1.2];exact h1
  unfold callK at hk
  obtain⟨out,h2,hk⟩:=ab.1 hk
  cases out with
  |panic pv m=>cases hk
  |ret rv m=>
   dsimp only at hk
   obtain⟨y,h3,_⟩:=dO hk
   simp only[Option.some.injEq,Prod.mk.injEq]at h3
   refine⟨h3.2.1.symm,aI.2 ⟨h1',?_⟩⟩
   unfold callK
   refine ab.2 ⟨.ret rv m,h2,?_⟩
   dsimp only
   have:(cX P h.own o.type rv fun v=>some (v,ac h.take t,m))=opt (cX P h.own o.type rv fun v=>some (v,ac h.take s,m)) fun q=>some (q.1,ac h.take t,q.2.2):=by
    rw[gQ]
    rfl
   rw[this,hk]
   rfl
 simp only[ba,cm,ho,hc0,e1,em]at hst ⊢
 obtain⟨h1,hst⟩:=aI.1 hst
 revert hst
 generalize evA h s.fr fx=q
 intro hst
 cases q with
 |cv cc=>
  cases cc with
  |clo f caps=>
   obtain⟨k1,k2⟩:=key _ _ hst
   exact⟨k1,aI.2 ⟨h1,k2⟩⟩
  |_=>cases hst
 |lclo f caps=>
  obtain⟨k1,k2⟩:=key _ _ hst
  exact⟨k1,aI.2 ⟨h1,k2⟩⟩
 |_=>cases hst
end
end Go.Abs
set_option linter.unusedVariables false
set_option linter.unusedSimpArgs false
namespace Go.Abs
open Go
section
variable {P:Program}{ρ:Rho}{h:OpHint}{o:Oper}{s t s':S}{μ ν μ':Mu}{v:LV}
theorem Ib (ha:Ag h o s t)(hc:dj (aR h o) s t μ ν)(hk:aR h o≠ .all)(hst:ba P ρ h o s μ=some (v,s',μ')):Eff P ρ h o (aR h o) s t μ ν v s' μ':=by
 have pl:aR h o= .plain→(∀t ν,Ag h o s t→bT P ρ h o s t μ ν)→Eff P ρ h o (aR h o) s t μ ν v s' μ':=fun e hp=>by rw[e];exact GP hp ha hst
 cases ho:o.op with
 |move x=>exact pl (by simp[aR,ho]) fun t ν ha=>Dh (.inl ho) ha
 |assign x=>exact pl (by simp[aR,ho]) fun t ν ha=>Dh (.inr ho) ha
 |pick c x y=>exact pl (by simp[aR,ho]) fun t ν ha=>LS ho ha
 |alloc ty=>exact GO ho hc hst
 |box ty x=>exact Lc ho ha hc hst
 |build ty ps=>exact pl (by simp[aR,ho]) fun t ν ha=>JF ho ha
 |buildSlice ty len ps=>
  cases hr:h.arr with
  |true=>exact vf ho hr ha hc hst
  |false=>exact pl (by simp[aR,ho,hr]) fun t ν ha=>wW ho hr ha
 |load ty x=>exact IH ho ha hc hst
 |store ty x y=>exact GQ ho ha hc hst
 |nilCheck x=>exact pl (by simp[aR,ho]) fun t ν ha=>BJ ho ha
 |binOp op ty x y ty'=>exact pl (by simp[aR,ho]) fun t ν ha=>JE ho ha
 |unOp op ty x=>exact pl (by simp[aR,ho]) fun t ν ha=>LT ho ha
 |convert src dst x=>
  cases hr:h.arr with
  |true=>exact absurd (by simp[aR,ho,hr]) hk
  |false=>exact Av ho hr ha hc hst
 |makeInterface ty x=>exact pl (by simp[aR,ho]) fun t ν ha=>te ho ha
 |makeFunc fn first captured=>exact pl (by simp[aR,ho]) fun t ν ha=>BI ho ha
 |slice ty x lo hi mx=>exact pl (by simp[aR,ho]) fun t ν ha=>JI ho ha
 |fieldAddr ty x f=>exact pl (by simp[aR,ho]) fun t ν ha=>zI ho ha
 |field ty x f=>exact pl (by simp[aR,ho]) fun t ν ha=>JG ho ha
 |indexAddr ty x y=>exact pl (by simp[aR,ho]) fun t ν ha=>zJ ho ha
 |index ty x y=>exact pl (by simp[aR,ho]) fun t ν ha=>JH ho ha
 |extract x i=>exact pl (by simp[aR,ho]) fun t ν ha=>Fa ho ha
 |panic x=>exact absurd (by simp[aR,ho]) hk
 |typeAssert x xt ty ok=>exact absurd (by simp[aR,ho]) hk
 |makeMap ty x=>exact absurd (by simp[aR,ho]) hk
 |insert ty m x y=>exact absurd (by simp[aR,ho]) hk
 |mapUpdate ty m x y=>exact absurd (by simp[aR,ho]) hk
 |lookup ty m x ok=>exact absurd (by simp[aR,ho]) hk
 |call c=>
  cases hc0:c.callee with
  |builtin b=>exact pl (by simp[aR,ho,hc0]) fun t ν ha=>E9 ho hc0 ha
  |value fx=>
   cases hp:h.push with
   |true=>exact absurd (by simp[aR,ho,hc0,hp]) hk
   |false=>exact IG ho hc0 hp ha hc hst
  |invoke r m=>simp[ba,cm,ho,hc0]at hst
 |_=>simp[ba,cm,ho]at hst
end
end Go.Abs
set_option linter.unusedVariables false
set_option linter.unusedSimpArgs false
namespace Go.Abs
open Go
def im (P:Program)(ρ:Rho)(H:Hints)(rg:Nat)(ops:Array Oper)(i:Nat)(s:S)(μ:Mu):Option (S×Mu):=
  match ops[i]? with
  |none=>none
  |some o=>match o.guard with
    |none=>opt (ba P ρ (H.op rg i) o s μ) fun q=>some (q.2.1.put o.dst q.1,q.2.2)
    |some g=>opt (kW ops g.1) fun d=>opt (fD (s.fr d)) fun q=>match q == some g.2 with
      |true=>opt (ba P ρ (H.op rg i) o s μ) fun q=>some (q.2.1.put o.dst q.1,q.2.2)
      |false=>some (s.put o.dst (.cv (.v Go.undef)),μ)
section
variable {P:Program}{ρ:Rho}{H:Hints}{rg:Nat}{ops:Array Oper}{α:Type}
theorem td {h:OpHint}(hf:iu h=true){o:Oper}{s:S}{μ:Mu}{f:LV→S→Mu→Option α}:opK P ρ h o s μ f (fun _ _ _=>none)=opt (ba P ρ h o s μ) fun q=>f q.1 q.2.1 q.2.2:=by
  unfold iu at hf
  split at hf
  · rename_i h1 h2
    unfold opK
    rw[h1,h2]
    exact HH
  · cases hf
theorem HI {i:Nat}{rest:List Nat}(hf:iu (H.op rg i)=true){s:S}{μ:Mu}{k:S→Mu→Option α}:
    d7 P ρ H rg ops (i::rest) s μ k (fun _ _ _=>none)=opt (im P ρ H rg ops i s μ) fun q=>d7 P ρ H rg ops rest q.1 q.2 k fun _ _ _=>none:=by
  simp only[d7,im]
  cases ops[i]? with
  |none=>rfl
  |some o=>
    dsimp only
    cases o.guard with
    |none=>dsimp only;rw[td hf,aE];rfl
    |some g=>
      dsimp only
      simp only[aE]
      congr;funext d
      cases hq:fD (s.fr d)with
      |none=>rfl
      |some q=>
       cases q with
       |none=>rfl
       |some b=>
        simp only[bm]
        have hb:=kH hq
        have hd:=eI hb
        obtain⟨j,want⟩:=g
        cases b<;>cases want<;>simp only[cond_true,cond_false,S.set_self s d _ hd,td hf,aE,bm,beq_self_eq_true]<;>rfl
def f7 (P:Program)(ρ:Rho)(H:Hints)(rg:Nat)(ops:Array Oper)(i:Nat)(o:Oper)(s:S)(μ:Mu):Option (LV×S×Mu):=
  match o.guard with
  |none=>ba P ρ (H.op rg i) o s μ
  |some g=>opt (kW ops g.1) fun d=>opt (fD (s.fr d)) fun q=>match q == some g.2 with
    |true=>ba P ρ (H.op rg i) o s μ
    |false=>some (.cv (.v Go.undef),s,μ)
theorem lc {i:Nat}{o:Oper}(ho:ops[i]? =some o){s:S}{μ:Mu}:im P ρ H rg ops i s μ=opt (f7 P ρ H rg ops i o s μ) fun q=>some (q.2.1.put o.dst q.1,q.2.2):=by
  simp only[im,f7,ho]
  cases o.guard with
  |none=>rfl
  |some g=>
    dsimp only
    simp only[aE]
    congr;funext d;congr;funext b
    cases b == some g.2<;>rfl
def nz (P:Program)(ρ:Rho)(H:Hints)(rg:Nat)(ops:Array Oper)(i:Nat)(o:Oper)(T:List Nat)(k:Kind)(s t:S)(μ ν:Mu)(v:LV)(s':S)(μ':Mu):Prop:=
  match k with
  | .plain=>s'=ac T s∧μ'=μ∧f7 P ρ H rg ops i o t ν=some (v,ac T t,ν)
  | .rd=>s'=ac T s∧μ'=μ∧f7 P ρ H rg ops i o t ν=some (v,ac T t,ν)
  | .wr=> ∃lam',s'={ac T s with lam:=lam'}∧μ'=μ∧f7 P ρ H rg ops i o t ν=some (v,{ac T t with lam:=lam'},ν)
  | .ap=> ∃ob,s'={ac T s with lam:=s.lam++[ob]}∧μ'=μ∧f7 P ρ H rg ops i o t ν=some (v,{ac T t with lam:=t.lam++[ob]},ν)
  | .look=>s'=ac T s∧μ'=μ∧f7 P ρ H rg ops i o t ν=some (v,ac T t,ν)
  | .ou=>s'=ac T s∧f7 P ρ H rg ops i o t ν=some (v,ac T t,μ')
  | .all=>False
def AgR (ops:Array Oper)(o:Oper)(s t:S):Prop:= ∀u,u∈o.looksAt ops→t.fr u=s.fr u
theorem AgR.ag {o:Oper}{s t:S}(h:AgR ops o s t)(hh:OpHint):Ag hh o s t:=by
  intro x hx
  cases x with
  |tmp u=>
    have hu:u∈o.looksAt ops:=by
      unfold Oper.looksAt
      refine List.mem_append_left _ (List.mem_filterMap.2 ⟨.tmp u,hx,rfl⟩)
    simp only[evA,h u hu]
  |const c=>rfl
  |global g=>rfl
  |func f=>rfl
theorem AgR.guard {o:Oper}{s t:S}(h:AgR ops o s t){g:Nat×Bool}(hg:o.guard=some g){d:Nat}(hd:kW ops g.1=some d):t.fr d=s.fr d:=by
  refine h d ?_
  unfold Oper.looksAt
  refine List.mem_append_right _ ?_
  rw[hg]
  obtain⟨j,b⟩:=g
  simp only[kW]at hd
  cases hj:ops[j]? with
  |none=>rw[hj]at hd;cases hd
  |some oj=>
    rw[hj]at hd
    have hd:oj.dst=some d:=hd
    simp[hj,hd]
theorem yj {i:Nat}{o:Oper}{s t s':S}{μ ν μ':Mu}{v:LV}(ha:AgR ops o s t)(hk:aR (H.op rg i) o≠ .all)(hst:f7 P ρ H rg ops i o s μ=some (v,s',μ')):
    ∃T k,(T=(H.op rg i).take∨T=[])∧(k=aR (H.op rg i) o∨k= .plain)∧ ∀t ν,AgR ops o s t→dj (aR (H.op rg i) o) s t μ ν→nz P ρ H rg ops i o T k s t μ ν v s' μ':=by
  have run:f7 P ρ H rg ops i o s μ=ba P ρ (H.op rg i) o s μ→(∀t ν,AgR ops o s t→f7 P ρ H rg ops i o t ν=ba P ρ (H.op rg i) o t ν)→
      ∃T k,(T=(H.op rg i).take∨T=[])∧(k=aR (H.op rg i) o∨k= .plain)∧ ∀t ν,AgR ops o s t→dj (aR (H.op rg i) o) s t μ ν→nz P ρ H rg ops i o T k s t μ ν v s' μ':=by
    intro e1 e2
    rw[e1]at hst
    refine⟨_,_,.inl rfl,.inl rfl,fun t ν ha hc=> ?_⟩
    have:=Ib (ha.ag _) hc hk hst
    unfold Eff at this
    unfold nz
    rw[e2 t ν ha]
    revert this hk
    cases aR (H.op rg i) o<;>intro hk this<;>first|exact this|exact absurd rfl hk
  cases hg:o.guard with
  |none=>exact run (by simp only[f7,hg]) fun t ν _=>by simp only[f7,hg]
  |some g=>
    have hst':=hst
    simp only[f7,hg]at hst'
    obtain⟨d,hd,hst'⟩:=ab.1 hst'
    obtain⟨b,hb,hst'⟩:=ab.1 hst'
    cases hbg:b == some g.2 with
    |true=>
      refine run (by simp only[f7,hg,hd,hb,bm,hbg]) fun t ν ha=> ?_
      have:=ha.guard hg hd
      simp only[f7,hg,hd,this,hb,bm,hbg]
    |false=>
      rw[hbg]at hst'
      simp only[Option.some.injEq,Prod.mk.injEq]at hst'
      obtain⟨rfl,rfl,rfl⟩:=hst'
      refine⟨[],.plain,.inr rfl,.inr rfl,fun t ν ha hc=>⟨rfl,rfl,?_⟩⟩
      have:=ha.guard hg hd
      simp only[f7,hg,hd,this,hb,bm,hbg,ac]
def vD (u:Nat):List Nat→LV→LV
  |[],x=>x
  |t::r,x=>vD u r (if u=t then strip x else x)
def phi (T:List Nat)(dst:Option Nat)(v:LV)(u:Nat)(x:LV):LV:=if dst=some u then v else vD u T x
theorem qE: ∀(T:List Nat) (s:S) (u:Nat),(ac T s).fr u=vD u T (s.fr u)
  |[],s,u=>rfl
  |t::r,s,u=>by
    simp only[ac,vD]
    rw[qE r]
    congr 1
    by_cases hu:u=t
    · subst hu;simp only[S.set,fO,if_true]
    · simp only[S.set,eT _ _ hu,if_neg hu]
theorem lj {s':S}{T:List Nat}{s:S}{dst:Option Nat}{v:LV}(h:s'.fr=(ac T s).fr)(u:Nat):(s'.put dst v).fr u=phi T dst v u (s.fr u):=by
  unfold phi
  cases dst with
  |none=>simp only[S.put,h,qE,reduceCtorEq,if_false]
  |some d=>
    by_cases hu:u=d
    · subst hu;simp only[S.put,S.set,fO,if_true]
    · have: ¬(some d=some u):=fun e=>hu (Option.some.inj e).symm
      simp only[S.put,S.set,eT _ _ hu,h,qE,if_neg this]
theorem uv {u:Nat}: ∀{T:List Nat} {x:LV},u ∉ T→vD u T x=x
  |[],x,_=>rfl
  |t::r,x,h=>by
    simp only[List.mem_cons,not_or]at h
    simp only[vD,if_neg h.1]
    exact uv h.2
theorem iK {T:List Nat}{dst:Option Nat}{v:LV}{u:Nat}{x:LV}(h1:dst≠some u)(h2:u ∉ T):phi T dst v u x=x:=by
  unfold phi
  rw[if_neg h1,uv h2]
theorem rj (s:S)(dst:Option Nat)(v:LV):(s.put dst v).lam=s.lam∧(s.put dst v).pushed=s.pushed:=by
  cases dst<;>exact⟨rfl,rfl⟩
end
end Go.Abs
set_option linter.unusedVariables false
set_option linter.unusedSimpArgs false
namespace Go.Abs
open Go
section
variable {P:Program}{ρ:Rho}{H:Hints}{rg:Nat}{ops:Array Oper}
def lm (k:Kind)(s s1:S)(μ μ1:Mu):Prop:=
 s1.pushed=s.pushed∧match k with
 | .plain=>s1.lam=s.lam∧μ1=μ
 | .rd=>s1.lam=s.lam∧μ1=μ
 | .wr=>μ1=μ
 | .ap=>(∃ob,s1.lam=s.lam++[ob])∧μ1=μ
 | .look=>s1.lam=s.lam∧μ1=μ
 | .ou=>s1.lam=s.lam
 | .all=>False
theorem nz.left {i:Nat}{o:Oper}{T:List Nat}{k:Kind}{s t s':S}{μ ν μ':Mu}{v:LV}(h:nz P ρ H rg ops i o T k s t μ ν v s' μ'):lm k s s' μ μ'∧s'.fr=(ac T s).fr:=by
 have l:=aQ T s
 unfold nz at h
 unfold lm
 cases k with
 |plain=>obtain⟨rfl,rfl,_⟩:=h;exact⟨⟨l.2,l.1,rfl⟩,rfl⟩
 |rd=>obtain⟨rfl,rfl,_⟩:=h;exact⟨⟨l.2,l.1,rfl⟩,rfl⟩
 |wr=>obtain⟨lam',rfl,rfl,_⟩:=h;exact⟨⟨l.2,rfl⟩,rfl⟩
 |ap=>obtain⟨ob,rfl,rfl,_⟩:=h;exact⟨⟨l.2,⟨ob,rfl⟩,rfl⟩,rfl⟩
 |look=>obtain⟨rfl,rfl,_⟩:=h;exact⟨⟨l.2,l.1,rfl⟩,rfl⟩
 |ou=>obtain⟨rfl,_⟩:=h;exact⟨⟨l.2,l.1⟩,rfl⟩
 |all=>exact h.elim
theorem Gg {kj ki:Kind}(hm:dU kj ki=true∨kj= .plain)(hki:ki≠ .all){s s1:S}{μ μ1:Mu}(h:lm kj s s1 μ μ1):dj ki s1 s μ1 μ:=by
 unfold lm at h
 obtain⟨hp,h⟩:=h
 cases kj<;>cases ki<;>simp_all [dU,dj]
theorem ID {kj ki:Kind}(hm:dU kj ki=true∨ki= .plain)(hkj:kj≠ .all){s t1:S}{μ ν1:Mu}(h:lm ki s t1 μ ν1):dj kj s t1 μ ν1:=by
 unfold lm at h
 obtain⟨hp,h⟩:=h
 cases kj<;>cases ki<;>simp_all [dU,dj]
 obtain⟨⟨ob,h1⟩,h2⟩:=h
 intro i hi
 rw[h1]
 exact gr (lB hi)
def Mem (k:Kind)(a b:Lam)(μ ν:Mu)(a' b':Lam)(μ' ν':Mu):Prop:=
 match k with
 | .plain=>a'=a∧b'=b∧μ'=μ∧ν'=ν
 | .rd=>a'=a∧b'=b∧μ'=μ∧ν'=ν
 | .wr=>b'=a'∧μ'=μ∧ν'=ν
 | .ap=>(∃ob,a'=a++[ob]∧b'=b++[ob])∧μ'=μ∧ν'=ν
 | .look=>a'=a∧b'=b∧μ'=μ∧ν'=ν
 | .ou=>a'=a∧b'=b∧ν'=μ'
 | .all=>False
theorem nz.out {i:Nat}{o:Oper}{T:List Nat}{k:Kind}{s t s':S}{μ ν μ':Mu}{v:LV}(h:nz P ρ H rg ops i o T k s t μ ν v s' μ'):
  ∃X ν',f7 P ρ H rg ops i o t ν=some (v,X,ν')∧X.fr=(ac T t).fr∧X.pushed=t.pushed∧Mem k s.lam t.lam μ ν s'.lam X.lam μ' ν'∧lm k t X ν ν':=by
 have l:=aQ T s
 have l2:=aQ T t
 unfold nz at h
 cases k with
 |plain=>obtain⟨rfl,rfl,h⟩:=h;exact⟨_,_,h,rfl,l2.2,⟨l.1,l2.1,rfl,rfl⟩,l2.2,l2.1,rfl⟩
 |rd=>obtain⟨rfl,rfl,h⟩:=h;exact⟨_,_,h,rfl,l2.2,⟨l.1,l2.1,rfl,rfl⟩,l2.2,l2.1,rfl⟩
 |wr=>obtain⟨lam',rfl,rfl,h⟩:=h;exact⟨_,_,h,rfl,l2.2,⟨rfl,rfl,rfl⟩,l2.2,rfl⟩
 |ap=>obtain⟨ob,rfl,rfl,h⟩:=h;exact⟨_,_,h,rfl,l2.2,⟨⟨ob,rfl,rfl⟩,rfl,rfl⟩,l2.2,⟨ob,rfl⟩,rfl⟩
 |look=>obtain⟨rfl,rfl,h⟩:=h;exact⟨_,_,h,rfl,l2.2,⟨l.1,l2.1,rfl,rfl⟩,l2.2,l2.1,rfl⟩
 |ou=>obtain⟨rfl,h⟩:=h;exact⟨_,_,h,rfl,l2.2,⟨l.1,l2.1,rfl⟩,l2.2,l2.1⟩
 |all=>exact h.elim
theorem og: ∀{a b:List Nat},ve a b=true→ ∀x,x∈a→x ∉ b
 |[],b,_,x,hx=>by simp at hx
 |y::r,b,h,x,hx=>by
  simp only[ve]at h
  split at h
  ·cases h
  ·rename_i hm
   rcases List.mem_cons.1 hx with rfl|hx
   ·intro hb;rw[lE.2 hb]at hm;cases hm
   ·exact og h x hx
theorem AG {h:OpHint}{o:Oper}{u:Nat}:u∈fZ h o↔o.dst=some u∨u∈h.take:=by
 unfold fZ
 cases o.dst with
 |none=>simp
 |some d=>simp[eq_comm]
theorem kY {h:OpHint}{o:Oper}{u:Nat}(hu:u ∉ fZ h o){T:List Nat}(hT:T=h.take∨T=[]):o.dst≠some u∧u ∉ T:=by
 rw[AG,not_or]at hu
 refine⟨hu.1,?_⟩
 rcases hT with rfl|rfl
 ·exact hu.2
 ·simp
theorem Ae {kj ki kj' ki':Kind}(h:dU kj ki=true)(hj:kj'=kj∨kj'= .plain)(hi:ki'=ki∨ki'= .plain):dU kj' ki'=true:=by
 rcases hj with e|e<;>rcases hi with e'|e'<;>rw[e,e']<;>cases kj<;>cases ki<;>simp_all [dU]
theorem IX {kj ki:Kind}{l l1 l2 t1 y:Lam}{μ μ1 μ2 ν1 ν2:Mu}(ha:dU kj ki=true)(hb:Mem ki l1 l μ1 μ l2 t1 μ2 ν1)(hc:Mem kj l t1 μ ν1 l1 y μ1 ν2):y=l2∧ν2=μ2:=by
 cases kj<;>cases ki<;>simp only[dU,Bool.false_eq_true]at ha<;>simp only[Mem]at hb hc
 all_goals first
  |(obtain⟨a1,a2,a3,a4⟩:=hb;obtain⟨b1,b2,b3,b4⟩:=hc;subst_vars;exact⟨rfl,rfl⟩)
  |(obtain⟨⟨ob,a1,a2⟩,a3,a4⟩:=hb;obtain⟨b1,b2,b3,b4⟩:=hc;subst_vars;exact⟨rfl,rfl⟩)
  |(obtain⟨a1,a2,a3⟩:=hb;obtain⟨b1,b2,b3,b4⟩:=hc;subst_vars;exact⟨rfl,rfl⟩)
  |(obtain⟨a1,a2,a3,a4⟩:=hb;obtain⟨b1,b2,b3⟩:=hc;subst_vars;exact⟨rfl,rfl⟩)
  |(obtain⟨⟨ob,a1,a2⟩,a3,a4⟩:=hb;obtain⟨⟨ob2,b1,b2⟩,b3,b4⟩:=hc;subst_vars;exact⟨rfl,rfl⟩)
  |(obtain⟨a1,a2,a3⟩:=hb;obtain⟨b1,b2,b3⟩:=hc;subst_vars;exact⟨rfl,rfl⟩)
  |(obtain⟨a1,a2,a3,a4⟩:=hb;obtain⟨⟨ob,b1,b2⟩,b3,b4⟩:=hc;subst_vars;exact⟨rfl,rfl⟩)
  |(obtain⟨a1,a2,a3⟩:=hb;obtain⟨⟨ob,b1,b2⟩,b3,b4⟩:=hc;subst_vars;exact⟨rfl,rfl⟩)
  |(obtain⟨⟨ob,a1,a2⟩,a3,a4⟩:=hb;obtain⟨b1,b2,b3⟩:=hc;subst_vars;exact⟨rfl,rfl⟩)
theorem Pv {i j:Nat}{s s1 s2:S}{μ μ1 μ2:Mu}(hind:q9 H rg ops j i=true)(h1:im P ρ H rg ops j s μ=some (s1,μ1))(h2:im P ρ H rg ops i s1 μ1=some (s2,μ2)):
  ∃t1 ν1,im P ρ H rg ops i s μ=some (t1,ν1)∧im P ρ H rg ops j t1 ν1=some (s2,μ2):=by
 unfold q9 at hind
 split at hind<;>try(cases hind;done)
 rename_i oj oi hj hi
 simp only[Bool.and_eq_true]at hind
 obtain⟨⟨⟨d1,d2⟩,d3⟩,hm⟩:=hind
 have hkj:aR (H.op rg j) oj≠ .all:=fun e=>by rw[e]at hm;simp[dU]at hm
 have hki:aR (H.op rg i) oi≠ .all:=fun e=>by rw[e]at hm;revert hm;cases aR (H.op rg j) oj<;>simp[dU]
 rw[lc hj]at h1
 obtain⟨⟨vj,sj,μj⟩,g1,e1⟩:=ab.1 h1
 simp only[Option.some.injEq,Prod.mk.injEq]at e1
 obtain⟨rfl,rfl⟩:=e1
 rw[lc hi]at h2
 obtain⟨⟨vi,si,μi⟩,g2,e2⟩:=ab.1 h2
 simp only[Option.some.injEq,Prod.mk.injEq]at e2
 obtain⟨rfl,rfl⟩:=e2
 obtain⟨Tj,kj,hTj,hkj',Ej⟩:=yj (t:=s) (ν:=μ) (fun _ _=>rfl) hkj g1
 obtain⟨Ti,ki,hTi,hki',Ei⟩:=yj (t:=sj.put oj.dst vj) (ν:=μj) (fun _ _=>rfl) hki g2
 have hcond0: ∀k:Kind,dj k s s μ μ:=fun k=>by cases k<;>simp[dj]
 obtain⟨Lj,frj⟩:=(Ej s μ (fun _ _=>rfl) (hcond0 _)).left
 have hput:=rj sj oj.dst vj
 have Lj':lm kj s (sj.put oj.dst vj) μ μj:=by
  unfold lm at Lj ⊢
  rw[hput.1,hput.2]
  exact Lj
 have hahead:=Ae hm hkj' hki'
 have hag1:AgR ops oi (sj.put oj.dst vj) s:=by
  intro u hu
  have hnw:u ∉ fZ (H.op rg j) oj:=fun h=>og d1 u h hu
  obtain⟨n1,n2⟩:=kY hnw hTj
  rw[lj frj u,iK n1 n2]
 have hc1:dj (aR (H.op rg i) oi) (sj.put oj.dst vj) s μj μ:=by
  refine Gg ?_ hki Lj'
  rcases hkj' with rfl|rfl
  ·exact .inl hm
  ·exact .inr rfl
 obtain⟨X,ν1,hX,frX,puX,memX,LX⟩:=(Ei s μ hag1 hc1).out
 have hputX:=rj X oi.dst vi
 have LX':lm ki s (X.put oi.dst vi) μ ν1:=by
  unfold lm at LX ⊢
  rw[hputX.1,hputX.2]
  exact LX
 have hag2:AgR ops oj s (X.put oi.dst vi):=by
  intro u hu
  have hnw:u ∉ fZ (H.op rg i) oi:=fun h=>og d3 u h hu
  obtain⟨n1,n2⟩:=kY hnw hTi
  rw[lj frX u,iK n1 n2]
 have hc2:dj (aR (H.op rg j) oj) s (X.put oi.dst vi) μ ν1:=by
  refine ID (ki:=ki) ?_ hkj LX'
  rcases hki' with rfl|rfl
  ·exact .inl hm
  ·exact .inr rfl
 obtain⟨Y,ν2,hY,frY,puY,memY,LY⟩:=(Ej _ _ hag2 hc2).out
 refine⟨X.put oi.dst vi,ν1,by rw[lc hi,hX];rfl,?_⟩
 rw[lc hj,hY]
 simp only[bm,Option.some.injEq,Prod.mk.injEq]
 have hputY:=rj Y oj.dst vj
 have hputi:=rj si oi.dst vi
 obtain⟨Li,fri⟩:=(Ei _ μj (fun _ _=>rfl) (by cases aR (H.op rg i) oi<;>simp[dj])).left
 have hmem:Y.lam=si.lam∧ν2=μi∧Y.pushed=si.pushed:=by
  rw[hput.1]at memX
  rw[hputX.1]at memY
  have p1:si.pushed=s.pushed:=by rw[Li.1,hput.2,Lj.1]
  have p2:Y.pushed=s.pushed:=by rw[puY,hputX.2,puX]
  obtain⟨m1,m2⟩:=IX hahead memX memY
  exact⟨m1,m2,by rw[p1,p2]⟩
 refine⟨?_,hmem.2.1⟩
 have hfr: ∀u,(Y.put oj.dst vj).fr u=(si.put oi.dst vi).fr u:=by
  intro u
  rw[lj frY u,lj frX u,lj fri u,lj frj u]
  by_cases hu:u∈fZ (H.op rg j) oj
  ·have hnw:=og d2 u hu
   obtain⟨n1,n2⟩:=kY hnw hTi
   rw[iK n1 n2,iK n1 n2]
  ·obtain⟨n1,n2⟩:=kY hu hTj
   rw[iK n1 n2,iK n1 n2]
 have e1:(Y.put oj.dst vj).fr=(si.put oi.dst vi).fr:=funext hfr
 have e2:(Y.put oj.dst vj).lam=(si.put oi.dst vi).lam:=by rw[hputY.1,hputi.1];exact hmem.1
 have e3:(Y.put oj.dst vj).pushed=(si.put oi.dst vi).pushed:=by rw[hputY.2,hputi.2];exact hmem.2.2
 revert e1 e2 e3
 generalize Y.put oj.dst vj=A
 generalize si.put oi.dst vi=B
 intro e1 e2 e3
 cases A;cases B
 simp only at e1 e2 e3
 rw[e1,e2,e3]
end
end Go.Abs
set_option linter.unusedVariables false
set_option linter.unusedSimpArgs false
namespace Go.Abs
open Go
section
variable {P:Program}{ρ:Rho}{H:Hints}{rg:Nat}{ops:Array Oper}{α:Type}
def lJ (P:Program)(ρ:Rho)(H:Hints)(rg:Nat)(ops:Array Oper):List Nat→S→Mu→Option (S×Mu)
 |[],s,μ=>some (s,μ)
 |i::r,s,μ=>opt (im P ρ H rg ops i s μ) fun q=>lJ P ρ H rg ops r q.1 q.2
theorem zH: ∀{l:List Nat} (hf: ∀i∈l,iu (H.op rg i)=true) {s:S} {μ:Mu} {k:S→Mu→Option α},
  d7 P ρ H rg ops l s μ k (fun _ _ _=>none)=opt (lJ P ρ H rg ops l s μ) fun q=>k q.1 q.2
 |[],hf,s,μ,k=>by simp only[d7,lJ,bm]
 |i::r,hf,s,μ,k=>by
  rw[HI (hf i (by simp)),lJ,aE]
  congr;funext q
  exact zH fun j hj=>hf j (List.mem_cons_of_mem _ hj)
theorem Kl {i:Nat}: ∀{l:List Nat} {s:S} {μ:Mu} {out:S×Mu},l.Pairwise (· < ·)→i∈l→(∀j∈l,j<i→q9 H rg ops j i=true)→lJ P ρ H rg ops l s μ=some out→
  ∃q,im P ρ H rg ops i s μ=some q∧lJ P ρ H rg ops (l.erase i) q.1 q.2=some out
 |[],s,μ,out,hp,hi,hx,h=>by simp at hi
 |j::r,s,μ,out,hp,hi,hx,h=>by
  simp only[lJ]at h
  obtain⟨q,h1,h2⟩:=ab.1 h
  by_cases hji:j=i
  ·subst hji
   exact⟨q,h1,by simpa using h2⟩
  ·have hir:i∈r:=by
    rcases List.mem_cons.1 hi with rfl|h
    ·exact absurd rfl hji
    ·exact h
   rw[List.pairwise_cons]at hp
   obtain⟨p,k1,k2⟩:=Kl hp.2 hir (fun k hk hlt=>hx k (List.mem_cons_of_mem _ hk) hlt) h2
   obtain⟨s1,μ1⟩:=q
   obtain⟨s2,μ2⟩:=p
   obtain⟨t1,ν1,m1,m2⟩:=Pv (hx j (by simp) (hp.1 i hir)) h1 k1
   refine⟨(t1,ν1),m1,?_⟩
   rw[List.erase_cons_tail (by simpa using hji)]
   simp only[lJ]
   exact ab.2 ⟨_,m2,k2⟩
theorem nX {f:Nat→Bool}: ∀{n:Nat},xW f n=true→ ∀i,i<n→f i=true
 |0,_,i,hi=>by omega
 |n+1,h,i,hi=>by
  simp only[xW]at h
  split at h<;>try(cases h;done)
  rename_i hn
  rcases Nat.lt_or_ge i n with h1|h1
  ·exact nX h i h1
  ·have:i=n:=by omega
   subst this
   exact hn
theorem CW {i:Nat}: ∀{l:List Nat},ltB i l=true→ ∀p∈l,p<i
 |[],_,p,hp=>by simp at hp
 |q::r,h,p,hp=>by
  simp only[ltB]at h
  split at h<;>try(cases h;done)
  rename_i hq
  rcases List.mem_cons.1 hp with rfl|hp
  ·simpa[Nat.blt_eq]using hq
  ·exact CW h p hp
theorem qh {rows:List (List Nat)}: ∀{l:List Nat} {j:Nat},j∈uB rows l→ ∃p∈l,j=p∨j∈rows.getD p []
 |[],j,h=>by simp[uB]at h
 |p::r,j,h=>by
  simp only[uB,List.mem_cons,List.mem_append]at h
  rcases h with h|h|h
  ·exact⟨p,by simp,.inl h⟩
  ·exact⟨p,by simp,.inr h⟩
  ·obtain⟨q,h1,h2⟩:=qh h
   exact⟨q,List.mem_cons_of_mem _ h1,h2⟩
theorem da: ∀n,(ei ops n).length=n
 |0=>rfl
 |n+1=>by simp[ei,da n]
theorem tD {n i:Nat}(h:i<n):(ei ops (n+1)).getD i []=(ei ops n).getD i []:=by
 simp only[ei,List.getD_eq_getElem?_getD]
 rw[List.getElem?_append_left (by rw[da];exact h)]
def xu (ops:Array Oper)(U:Nat→Prop):Prop:= ∀i,U i→ ∀p∈gS ops i,U p
theorem n0 {U:Nat→Prop}(hU:xu ops U): ∀{n i j:Nat},i<n→j∈(ei ops n).getD i []→U i→U j∧True
 |0,i,j,hi,_,_=>by omega
 |n+1,i,j,hi,hj,hui=>by
  rcases Nat.lt_or_ge i n with h1|h1
  ·rw[tD h1]at hj
   exact n0 hU h1 hj hui
  ·have:i=n:=by omega
   subst this
   simp only[ei,List.getD_eq_getElem?_getD]at hj
   rw[List.getElem?_append_right (by rw[da];exact Nat.le_refl _),da]at hj
   simp only[Nat.sub_self,List.getElem?_cons_zero,Option.getD_some]at hj
   obtain⟨p,hp,h2⟩:=qh hj
   have hup:=hU i hui p hp
   rcases h2 with rfl|h2
   ·exact⟨hup,trivial⟩
   ·rcases Nat.lt_or_ge p i with h3|h3
    ·exact n0 hU h3 h2 hup
    ·rw[List.getD_eq_getElem?_getD,List.getElem?_eq_none (by rw[da];exact h3)]at h2
     simp at h2
theorem DI {U:Nat→Prop}(hU:xu ops U){n i j:Nat}(hi:i<n)(hp: ∀p∈gS ops i,U p)(hj:j∈(ei ops n).getD i []):U j:=by
 induction n with
 |zero=>omega
 |succ n ih=>
  rcases Nat.lt_or_ge i n with h1|h1
  ·rw[tD h1]at hj
   exact ih h1 hj
  ·have:i=n:=by omega
   subst this
   simp only[ei,List.getD_eq_getElem?_getD]at hj
   rw[List.getElem?_append_right (by rw[da];exact Nat.le_refl _),da]at hj
   simp only[Nat.sub_self,List.getElem?_cons_zero,Option.getD_some]at hj
   obtain⟨p,hpp,h2⟩:=qh hj
   have hup:=hp p hpp
   rcases h2 with rfl|h2
   ·exact hup
   ·rcases Nat.lt_or_ge p i with h3|h3
    ·exact(n0 hU h3 h2 hup).1
    ·rw[List.getD_eq_getElem?_getD,List.getElem?_eq_none (by rw[da];exact h3)]at h2
     simp at h2
theorem wu {i p:Nat}{o:Oper}(ho:ops[i]? =some o):p∈gS ops i↔ ∃e∈o.after,Region.binds .any e=true∧e.on=p:=by
 simp only[gS,ho,List.mem_map,List.mem_filter,Array.mem_toList_iff]
 constructor
 ·rintro⟨e,⟨h1,h2⟩,h3⟩;exact⟨e,h1,h2,h3⟩
 ·rintro⟨e,h1,h2,h3⟩;exact⟨e,⟨h1,h2⟩,h3⟩
variable {W0:World}{L:Nat}{r:α}{Q:Exit→Act→World→Prop}
theorem BM (hrho:dP P W0 ρ){i:Nat}(hf:iu (H.op rg i)=true){G:Gh}{w:World}{s s':S}{μ μ':Mu}{a:Act}{n:Nat}{ds:Keep}(hlt: ∀(i:Nat) (o:Oper),ops[i]? =some o→ ∀d,o.dst=some d→d<n∧ds.lets d)
  (hkn:Kn W0 w (ax G w s μ a.tmps)) (hds:ds.at a) (h:im P ρ H rg ops i s μ=some (s',μ')) (R:Rel G L s μ a.tmps w) (hn:a.tmps.size=n) {K:Act→World→Prop}
  (hK: ∀a' w' G',Rel G' L s' μ' a'.tmps w'→Ext L (ax G w s μ a.tmps) G w G' w' (ax G' w' s' μ' a'.tmps)→a'.tmps.size=n→ds.at a'→K a' w'):wpOp P ops Q i K a w:=by
 unfold wpOp
 simp only[im]at h
 cases ho:ops[i]? with
 |none=>rw[ho]at h;cases h
 |some o=>
  rw[ho]at h
  simp only at h ⊢
  have hlt': ∀d,o.dst=some d→d<a.tmps.size:=fun d hd=>by rw[hn];exact(hlt i o ho d hd).1
  have hlt2: ∀(i:Nat) (o:Oper),ops[i]? =some o→ ∀d,o.dst=some d→d<a.tmps.size:=fun i o ho d hd=>by rw[hn];exact(hlt i o ho d hd).1
  have run:(opt (ba P ρ (H.op rg i) o s μ) fun q=>some (q.2.1.put o.dst q.1,q.2.2))=some (s',μ')→o.wp P a w K Q:=by
   intro h
   have h2:opK P ρ (H.op rg i) o s μ (fun v s μ=>some (s.put o.dst v,μ)) (fun _ _ _=>none)=some (s',μ'):=by rw[td hf];exact h
   refine mn (L:=L) (G:=G) (r:=(s',μ')) (k:=fun v s μ=>some (s.put o.dst v,μ)) (p:=fun _ _ _=>none) R hlt' ?_ ?_ hrho hkn h2
   ·intro v s1 μ1 cv w' G' he R' E'
    simp only[Option.some.injEq,Prod.mk.injEq]at he
    obtain⟨rfl,rfl⟩:=he
    exact hK _ w' G' R' E' (by rw[(iv a o.dst cv).1];exact hn) (Keep.put hds fun d hd=>(hlt i o ho d hd).2)
   ·intro v s1 μ1 pv w' G' he
    cases he
  cases hg:o.guard with
  |none=>
   rw[hg]at h
   have hw:Region.wanted o (yielded ops a.tmps)=true:=by simp[Region.wanted,hg]
   rw[if_pos hw]
   exact .inl (run h)
  |some g=>
   rw[hg]at h
   simp only at h
   obtain⟨d,hd,h⟩:=ab.1 h
   obtain⟨b,hb,h⟩:=ab.1 h
   have hy:yielded ops a.tmps g.1=b:=by
    cases b with
    |none=>exact qO R hd hlt2 hb
    |some b=>exact uN R hd hlt2 (kH hb)
   obtain⟨j,want⟩:=g
   simp only at hd hy h
   split at h
   ·rename_i hbw
    have hw:Region.wanted o (yielded ops a.tmps)=true:=by
     have:b=some want:=by simpa using hbw
     subst this
     simp[Region.wanted,hg,hy]
    rw[if_pos hw]
    exact .inl (run h)
   ·rename_i hbw
    have hw: ¬Region.wanted o (yielded ops a.tmps)=true:=by
     have: ¬b=some want:=by simpa using hbw
     simp[Region.wanted,hg,hy,this]
    rw[if_neg hw]
    simp only[Option.some.injEq,Prod.mk.injEq]at h
    obtain⟨rfl,rfl⟩:=h
    obtain⟨R2,E2⟩:=R.skip o.dst hlt'
    exact hK _ w G R2 E2 (by rw[(iv a o.dst undef).1];exact hn) (Keep.put hds fun d hd=>(hlt i o ho d hd).2)
theorem F4 (hrho:dP P W0 ρ)(hdr:yz H rg ops=true){T:Nat→Prop}{G0:Gh}{w0:World}{n:Nat}{ds:Keep}{k:S→Mu→Option α}(hlt: ∀(i:Nat) (o:Oper),ops[i]? =some o→ ∀d,o.dst=some d→d<n∧ds.lets d)
  (hkn:Kn W0 w0 T) (hk:Dr L G0 w0 T n ds k r Q): ∀(fuel:Nat) {l:List Nat} {listed:Array Bool} {G:Gh} {w:World} {s:S} {μ:Mu} {a:Act},
  l.length≤fuel→listed.size=ops.size→l.Pairwise (· < ·)→(∀i,i∈l↔i<ops.size∧listed.getD i true=false)→xu ops (fun i=>listed.getD i false=true)→
  (opt (lJ P ρ H rg ops l s μ) fun q=>k q.1 q.2)=some r→Rel G L s μ a.tmps w→Ext L T G0 w0 G w (ax G w s μ a.tmps)→a.tmps.size=n→ds.at a→
  wpAny P .any ops Q fuel listed a w:=by
 have hok: ∀i,i<ops.size→(∀p∈gS ops i,p<i)∧iu (H.op rg i)=true∧ ∀j,j<i→j∈(ei ops ops.size).getD i []∨q9 H rg ops j i=true:=by
  intro i hi
  have:=nX hdr i hi
  simp only[Bool.and_eq_true]at this
  obtain⟨⟨h1,h2⟩,h3⟩:=this
  refine⟨CW h1,h2,fun j hj=> ?_⟩
  have:=nX h3 j hj
  simp only[Bool.or_eq_true]at this
  exact this.imp lE.1 id
 have hnil: ∀{l:List Nat} {listed:Array Bool} {G:Gh} {w:World} {s:S} {μ:Mu} {a:Act},l=[]→(opt (lJ P ρ H rg ops l s μ) fun q=>k q.1 q.2)=some r→Rel G L s μ a.tmps w→Ext L T G0 w0 G w (ax G w s μ a.tmps)→a.tmps.size=n→ds.at a→Q .normal a w:=by
  intro l listed G w s μ a hl h R E hn hds
  subst hl
  simp only[lJ,bm]at h
  exact hk s μ a w G h R E hn hds
 have hready: ∀{l:List Nat} {listed:Array Bool},listed.size=ops.size→l.Pairwise (· < ·)→(∀i,i∈l↔i<ops.size∧listed.getD i true=false)→Region.ready .any ops listed=[]→l=[]:=by
  intro l listed hsz hp hl hr
  cases l with
  |nil=>rfl
  |cons m rest=>
   exfalso
   rw[List.pairwise_cons]at hp
   obtain⟨hm1,hm2⟩:=(hl m).1 (by simp)
   have:m∈Region.ready .any ops listed:=by
    refine mem_ready.2 ⟨?_,ops[m],by simp[hm1],fun e he hb=> ?_⟩
    ·simp[Array.getD_eq_getD_getElem?,hsz,hm1]at hm2 ⊢; exact hm2
    ·have hpm:e.on∈gS ops m:=(wu (o:=ops[m]) (by simp[hm1])).2 ⟨e,he,hb,rfl⟩
     have hlt:=(hok m hm1).1 _ hpm
     by_cases hle:listed.getD e.on true=false
     ·have:=(hl e.on).2 ⟨by omega,hle⟩
      rcases List.mem_cons.1 this with h|h
      ·omega
      ·have:=hp.1 _ h;omega
     ·have hlt2:e.on<listed.size:=by omega
      simp[Array.getD_eq_getD_getElem?,hlt2]at hle ⊢; exact hle
   rw[hr]at this
   cases this
 intro fuel
 induction fuel with
 |zero=>
  intro l listed G w s μ a hf hsz hp hl hcl h R E hn hds
  have:l=[]:=List.length_eq_zero_iff.1 (by omega)
  refine⟨?_,hnil (listed:=listed) this h R E hn hds⟩
  cases hr:Region.ready .any ops listed with
  |nil=>rfl
  |cons m rest=>
   exfalso
   have hm:m∈Region.ready .any ops listed:=by rw[hr];simp
   obtain⟨h1,o,ho,_⟩:=mem_ready.1 hm
   have hlt:m<ops.size:=(Array.getElem?_eq_some_iff.1 ho).1
   have:=(hl m).2 ⟨hlt,by simp[Array.getD_eq_getD_getElem?,hsz,hlt]at h1 ⊢; exact h1⟩
   subst l
   simp at this
 |succ fuel ih=>
  intro l listed G w s μ a hf hsz hp hl hcl h R E hn hds
  refine⟨fun hr=>hnil (listed:=listed) (hready hsz hp hl hr) h R E hn hds,fun i hi=> ?_⟩
  obtain⟨h1,o,ho,hall⟩:=mem_ready.1 hi
  have hlti:i<ops.size:=(Array.getElem?_eq_some_iff.1 ho).1
  have hun:listed.getD i true=false:=by simp[Array.getD_eq_getD_getElem?,hsz,hlti]at h1 ⊢; exact h1
  have hil:i∈l:=(hl i).2 ⟨hlti,hun⟩
  have hpl: ∀p∈gS ops i,listed.getD p false=true:=by
   intro p hp
   obtain⟨e,he,hb,rfl⟩:=(wu ho).1 hp
   exact hall e he hb
  obtain⟨out,h2,h3⟩:=ab.1 h
  have hind: ∀j∈l,j<i→q9 H rg ops j i=true:=by
   intro j hj hji
   rcases(hok i hlti).2.2 j hji with hanc|hx
   ·exfalso
    have hu:=DI hcl hlti hpl hanc
    obtain⟨hj1,hj2⟩:=(hl j).1 hj
    have hj3:j<listed.size:=by omega
    simp[Array.getD_eq_getD_getElem?,hj3]at hu hj2
    rw[hu]at hj2
    cases hj2
   ·exact hx
  obtain⟨⟨s1,μ1⟩,k1,k2⟩:=Kl hp hil hind h2
  refine BM hrho (hok i hlti).2.1 hlt (hkn.ext E) hds k1 R hn fun a' w' G' R' E' hn' hd'=> ?_
  refine ih (l:=l.erase i) ?_ (by simp[hsz]) (hp.sublist List.erase_sublist) (fun j=> ?_) ?_ (ab.2 ⟨out,k2,h3⟩) R' (E.trans E') hn' hd'
  ·rw[List.length_erase_of_mem hil];omega
  ·have hnd:l.Nodup:=hp.imp fun h=>Nat.ne_of_lt h
   rw[hnd.mem_erase_iff,hl]
   constructor
   ·rintro⟨h1,h2,h3⟩
    exact⟨h2,by rw[getD_set_ne true (Ne.symm h1)];exact h3⟩
   ·rintro⟨h2,h3⟩
    by_cases hji:j=i
    ·subst hji
     simp[Array.getD_eq_getD_getElem?,Array.getElem?_setIfInBounds,hsz,hlti]at h3
    ·exact⟨hji,h2,by rw[getD_set_ne true (Ne.symm hji)]at h3;exact h3⟩
  ·intro j hj p hp
   by_cases hji:j=i
   ·subst hji
    exact getD_set_true (hpl p hp)
   ·rw[getD_set_ne false (Ne.symm hji)]at hj
    exact getD_set_true (hcl j hj p hp)
theorem Au (hrho:dP P W0 ρ)(hm:P.follows .mixedOrders=true)(hdr:yz H rg ops=true){T:Nat→Prop}{G0 G:Gh}{w0 w:World}{n:Nat}{ds:Keep}{s:S}{μ:Mu}{a:Act}{k:S→Mu→Option α}{id:Nat}
  (hlt: ∀(i:Nat) (o:Oper),ops[i]? =some o→ ∀d,o.dst=some d→d<n∧ds.lets d) (hkn:Kn W0 w0 T) (hk:Dr L G0 w0 T n ds k r Q)
  (h:d7 P ρ H rg ops (List.range ops.size) s μ k (fun _ _ _=>none)=some r) (R:Rel G L s μ a.tmps w) (E:Ext L T G0 w0 G w (ax G w s μ a.tmps)) (hn:a.tmps.size=n) (hds:ds.at a):
  (Code.region id ops true).wp P Q a w:=by
 refine wp_region_any hm ?_
 rw [zH fun i hi => by
  have:=nX hdr i (by simpa using hi)
  simp only[Bool.and_eq_true]at this
  exact this.1.2]at h
 obtain⟨R',hO⟩:=R.drew
 refine F4 (L:=L) (w:=w.drew) hrho hdr hlt hkn hk ops.size (by simp) (by simp) List.pairwise_lt_range (fun i=> ?_) (fun i hi=> ?_) h R' (E.trans ⟨⟨fun _ _ _ h hb=>⟨h,hb⟩,fun _ _ h=>⟨h,rfl,rfl⟩,fun _ _ _ h hc=>⟨h,hc⟩,fun b cur e fz h=>⟨cur,fz,h,rfl⟩⟩,rfl,rfl,rfl,Nat.le_refl _,fun _ _ _=>⟨rfl,rfl⟩,fun b hb=> .inl ?_,fun _ _=>⟨fun _=>⟨rfl,rfl⟩,rfl⟩⟩) hn hds
 ·simp only[List.mem_range]
  constructor
  ·intro h;exact⟨h,by simp[Array.getD_eq_getD_getElem?,h]⟩
  ·exact fun h=>h.1
 ·exfalso
  simp only[Array.getD_eq_getD_getElem?]at hi
  rcases Nat.lt_or_ge i ops.size with h1|h1
  ·simp[h1]at hi
  ·simp[h1]at hi
 ·rcases hb with⟨l,hb⟩|hb
  ·exact .inl ⟨l,hO l b hb⟩
  ·exact .inr hb
end
end Go.Abs
set_option linter.unusedVariables false
set_option linter.unusedSimpArgs false
namespace Go.Abs
open Go
theorem jU (l:Lam): ∀(n:Nat) (todo acc:List Nat),acc.Nodup→(mt l n todo acc).Nodup
 |0,_,acc,h=>by simpa[mt]using h
 |n+1,[],acc,h=>by simpa[mt]using h
 |n+1,i::todo,acc,h=>by
  simp only[mt]
  split
  ·exact jU l n todo acc h
  ·rename_i hm
   have hni:i ∉ acc:=fun hi=>by rw[lE.2 hi]at hm;cases hm
   have h2:(acc++[i]).Nodup:=by
    rw[List.nodup_append]
    refine⟨h,by simp,fun a ha b hb=> ?_⟩
    simp only[List.mem_singleton]at hb
    subst hb
    exact fun e=>hni (e▸ha)
   split
   ·exact jU l n _ _ h2
   ·exact jU l n _ _ h2
theorem iX: ∀{m:List Nat} {n i j:Nat},ml m n i=some j→n≤j∧m[j-n]? =some i
 |[],n,i,j,h=>by simp[ml]at h
 |a::r,n,i,j,h=>by
  simp only[ml]at h
  split at h
  ·rename_i e
   simp only[Option.some.injEq]at h
   subst h
   have:=Nat.eq_of_beq_eq_true e
   subst this
   simp
  ·obtain⟨h1,h2⟩:=iX h
   refine⟨by omega,?_⟩
   rw[show j-n=(j-(n+1))+1 by omega]
   simpa using h2
def Gh.order (G:Gh)(L:Nat)(m:List Nat):Gh where
 O:=G.O
 β:=fun l j=>if l=L then G.β L (m.getD j 0)else G.β l j
 n:=G.n
 sz:=fun l j=>if l=L then G.sz L (m.getD j 0)else G.sz l j
section
variable {G:Gh}{w:World}{L:Nat}{μ:Mu}{tm:Array Value}{s:S}
theorem Rel.refr (R:Rel G L s μ tm w){fr':Fr}(hf: ∀t,LVR G w L s.lam.length (fr' t) (tm.getD t undef)∧ ∀b,aD (fr' t) (tm.getD t undef) b→aD (s.fr t) (tm.getD t undef) b):
  Rel G L {s with fr:=fr'} μ tm w∧(∀l b,av G w fr' tm (μ++[s.lam]) l b→av G w s.fr tm (μ++[s.lam]) l b):=by
 have hown: ∀l b,av G w fr' tm (μ++[s.lam]) l b→av G w s.fr tm (μ++[s.lam]) l b:=by
  intro l b h
  cases l with
  |fr t=>exact(hf t).2 b h
  |ob lev i k=>exact h
 exact⟨⟨R.lev,fun t=>(hf t).1,R.lam,R.mu,R.inj,fun l l' b h h'=>R.own l l' b (hown l b h) (hown l' b h'),fun l b lev i h h'=>R.apart l b lev i (hown l b h) h',R.nlt,R.nL,R.ngt⟩,hown⟩
theorem sc (m:List Nat)(h0:G.n L=0):Le G w (G.order L m) w:=by
 refine⟨fun _ _ _ h hb=>⟨h,hb⟩,fun lev i h=> ?_,fun _ _ _ h hc=>⟨h,hc⟩,fun b cur e fz h=>⟨cur,fz,h,rfl⟩⟩
 have hne:lev≠L:=fun e=>by subst e;omega
 simp only[Gh.order,hne,if_false,and_self,and_true]
 exact h
mutual
theorem ji {m:List Nat}{nl:Nat}(h0:G.n L=0): ∀{x y:LV} {v:Value},eu m x=some y→LVR G w L nl x v→LVR (G.order L m) w L m.length y v∧(∀b,aD y v b↔aD x v b)∧((∀xs,x≠ .osl xs)→ ∀xs,y≠ .osl xs)
 | .cv c,y,v,hr,h=>by
  simp only[eu,Option.some.injEq]at hr
  subst hr
  refine⟨?_,fun b=>Iff.rfl,fun _=>by simp⟩
  simp only[LVR]at h ⊢
  exact bc (sc m h0) c v h
 | .osl xs,y,v,hr,h=>by
  simp only[eu,Option.some.injEq]at hr
  subst hr
  refine⟨?_,fun b=>Iff.rfl,fun h=>absurd rfl (h _)⟩
  simp only[LVR]at h ⊢
  exact iO (sc m h0) (fun _ _ _ _=>⟨rfl,rfl⟩) h
 | .loc i off,y,v,hr,h=>by
  simp only[eu]at hr
  obtain⟨j,hj,hr⟩:=ab.1 hr
  simp only[Option.some.injEq]at hr
  subst hr
  obtain⟨_,hm⟩:=iX hj
  simp only[Nat.sub_zero]at hm
  have hlt:j<m.length:=(List.getElem?_eq_some_iff.1 hm).1
  have hgd:m.getD j 0=i:=by rw[List.getD_eq_getElem?_getD,hm];rfl
  simp only[LVR]at h ⊢
  exact⟨⟨hlt,by simp only[Gh.order,if_true,hgd];exact h.2⟩,fun b=>by simp[aD],fun _=>by simp⟩
 | .lsl i off len,y,v,hr,h=>by
  simp only[eu]at hr
  obtain⟨j,hj,hr⟩:=ab.1 hr
  simp only[Option.some.injEq]at hr
  subst hr
  obtain⟨_,hm⟩:=iX hj
  simp only[Nat.sub_zero]at hm
  have hlt:j<m.length:=(List.getElem?_eq_some_iff.1 hm).1
  have hgd:m.getD j 0=i:=by rw[List.getD_eq_getElem?_getD,hm];rfl
  simp only[LVR]at h ⊢
  refine⟨⟨hlt,?_⟩,fun b=>by simp[aD],fun _=>by simp⟩
  simp only[Gh.order,if_true,hgd]
  exact h.2
 | .lclo f caps,y,v,hr,h=>by
  simp only[eu]at hr
  obtain⟨l,hl,hr⟩:=ab.1 hr
  simp only[Option.some.injEq]at hr
  subst hr
  simp only[LVR]at h ⊢
  obtain⟨vs,e,hv⟩:=h
  exact⟨⟨vs,e,mP h0 hl hv⟩,fun b=>by simp[aD],fun _=>by simp⟩
 | .ltup xs,y,v,hr,h=>by
  simp only[eu]at hr
  obtain⟨l,hl,hr⟩:=ab.1 hr
  simp only[Option.some.injEq]at hr
  subst hr
  simp only[LVR]at h ⊢
  obtain⟨vs,e,hv⟩:=h
  exact⟨⟨vs,e,mP h0 hl hv⟩,fun b=>by simp[aD],fun _=>by simp⟩
 | .mloc i,y,v,hr,h=>by
  simp only[eu]at hr
  obtain⟨j,hj,hr⟩:=ab.1 hr
  simp only[Option.some.injEq]at hr
  subst hr
  obtain⟨_,hm⟩:=iX hj
  simp only[Nat.sub_zero]at hm
  have hlt:j<m.length:=(List.getElem?_eq_some_iff.1 hm).1
  have hgd:m.getD j 0=i:=by rw[List.getD_eq_getElem?_getD,hm];rfl
  simp only[LVR]at h ⊢
  exact⟨⟨hlt,by simp only[Gh.order,if_true,hgd];exact h.2⟩,fun b=>by simp[aD],fun _=>by simp⟩
 | .tloc i t n,y,v,hr,h=>by
  simp only[eu]at hr
  obtain⟨j,hj,hr⟩:=ab.1 hr
  simp only[Option.some.injEq]at hr
  subst hr
  obtain⟨_,hm⟩:=iX hj
  simp only[Nat.sub_zero]at hm
  have hlt:j<m.length:=(List.getElem?_eq_some_iff.1 hm).1
  have hgd:m.getD j 0=i:=by rw[List.getD_eq_getElem?_getD,hm];rfl
  simp only[LVR]at h ⊢
  exact⟨⟨hlt,by simp only[Gh.order,if_true,hgd];exact h.2⟩,fun b=>by simp[aD],fun _=>by simp⟩
theorem mP {m:List Nat}{nl:Nat}(h0:G.n L=0): ∀{xs ys:List LV} {vs:List Value},dF m xs=some ys→bH G w L nl xs vs→bH (G.order L m) w L m.length ys vs
 |[],ys,vs,hr,h=>by
  simp only[dF,Option.some.injEq]at hr
  subst hr
  simpa[bH]using h
 |x::xs,ys,vs,hr,h=>by
  simp only[dF]at hr
  obtain⟨y,h1,hr⟩:=ab.1 hr
  obtain⟨l,h2,hr⟩:=ab.1 hr
  simp only[Option.some.injEq]at hr
  subst hr
  simp only[bH]at h ⊢
  obtain⟨v,vr,e,h3,h4,h5⟩:=h
  obtain⟨k1,k2,k3⟩:=ji h0 h1 h4
  exact⟨v,vr,e,k3 h3,k1,mP h0 h2 h5⟩
end
theorem mO {m:List Nat}: ∀{xs ys:List LV},dF m xs=some ys→ys.length=xs.length∧ ∀(j:Nat) y,ys[j]? =some y→ ∃x,xs[j]? =some x∧eu m x=some y
 |[],ys,h=>by simp only[dF,Option.some.injEq]at h;subst h;exact⟨rfl,fun j y hy=>by simp at hy⟩
 |x::xs,ys,h=>by
  simp only[dF]at h
  obtain⟨y,h1,h⟩:=ab.1 h
  obtain⟨r,h2,h⟩:=ab.1 h
  simp only[Option.some.injEq]at h
  subst h
  obtain⟨h3,h4⟩:=mO h2
  refine⟨by simp[h3],fun j z hz=> ?_⟩
  cases j with
  |zero=>simp only[List.getElem?_cons_zero,Option.some.injEq]at hz;subst hz;exact⟨x,rfl,h1⟩
  |succ j=>exact h4 j z (by simpa using hz)
inductive ObRen (m:List Nat):Ob→Ob→Prop where
 |dead:ObRen m .dead .dead
 |arr {sz cs}:ObRen m (.arr sz cs) (.arr sz cs)
 |map {ks vs}:ObRen m (.map ks vs) (.map ks vs)
 |cells {cs ds}:dF m cs=some ds→ObRen m (.cells cs) (.cells ds)
theorem fS {m:List Nat}: ∀{l l':List Ob},dt m l=some l'→l'.length=l.length∧ ∀i,ObRen m (aF l i) (aF l' i)
 |[],l',h=>by simp only[dt,Option.some.injEq]at h;subst h;exact⟨rfl,fun i=>by simp only[aF,List.getElem?_nil];exact .dead⟩
 | .dead::l,l',h=>by
  simp only[dt]at h
  obtain⟨r,h1,h⟩:=ab.1 h
  simp only[Option.some.injEq]at h
  subst h
  obtain⟨h2,h3⟩:=fS h1
  refine⟨by simp[h2],fun i=> ?_⟩
  cases i with
  |zero=>exact .dead
  |succ i=>exact h3 i
 | .arr sz cs::l,l',h=>by
  simp only[dt]at h
  obtain⟨r,h1,h⟩:=ab.1 h
  simp only[Option.some.injEq]at h
  subst h
  obtain⟨h2,h3⟩:=fS h1
  refine⟨by simp[h2],fun i=> ?_⟩
  cases i with
  |zero=>exact .arr
  |succ i=>exact h3 i
 | .map ks vs::l,l',h=>by
  simp only[dt]at h
  obtain⟨r,h1,h⟩:=ab.1 h
  simp only[Option.some.injEq]at h
  subst h
  obtain⟨h2,h3⟩:=fS h1
  refine⟨by simp[h2],fun i=> ?_⟩
  cases i with
  |zero=>exact .map
  |succ i=>exact h3 i
 | .cells cs::l,l',h=>by
  simp only[dt]at h
  obtain⟨ds,h0,h⟩:=ab.1 h
  obtain⟨r,h1,h⟩:=ab.1 h
  simp only[Option.some.injEq]at h
  subst h
  obtain⟨h2,h3⟩:=fS h1
  refine⟨by simp[h2],fun i=> ?_⟩
  cases i with
  |zero=>exact .cells h0
  |succ i=>exact h3 i
theorem ObRen.live {m:List Nat}{o o':Ob}(h:ObRen m o o'):aJ o'↔aJ o:=by cases h<;>exact Iff.rfl
theorem G7 {m:List Nat}{l:Lam}{j:Nat}(h:aJ (aF (m.map (aF l)) j)):j<m.length∧aF (m.map (aF l)) j=aF l (m.getD j 0):=by
 have hj:=lB h
 simp only[List.length_map]at hj
 refine⟨hj,?_⟩
 have e:(m.map (aF l))[j]? =some (aF l (m.getD j 0)):=by
  rw[List.getElem?_map,List.getElem?_eq_getElem hj,List.getD_eq_getElem?_getD,List.getElem?_eq_getElem hj]
  rfl
 simp only[aF,e]
theorem Rel.reorder (R:Rel G L s μ tm w)(hp:s.pushed=false){m:List Nat}(hm:m.Nodup){fr':Fr}{l':Lam}(hf: ∀t,eu m (s.fr t)=some (fr' t))(hl:dt m (m.map (aF s.lam))=some l'):
  Rel (G.order L m) L {fr:=fr',lam:=l',pushed:=false} μ tm w∧Ext L (ax G w s μ tm) G w (G.order L m) w (ax (G.order L m) w {fr:=fr',lam:=l',pushed:=false} μ tm):=by
 have hμ:=R.lev
 have h0:G.n L=0:=by have:=R.nL;rw[hp]at this;simpa using this
 have hle:Le G w (G.order L m) w:=sc m h0
 obtain⟨hll,hlg⟩:=fS hl
 have hll':l'.length=m.length:=by rw[hll];simp
 have eL: ∀i,aC (μ++[s.lam]) L i=aF s.lam i:=fun i=>by rw[←hμ];exact bL
 have eL': ∀i,aC (μ++[l']) L i=aF l' i:=fun i=>by rw[←hμ];exact bL
 have hβ: ∀lev i,lev≠L→(G.order L m).β lev i=G.β lev i:=fun lev i h=>by simp[Gh.order,h]
 have hβL: ∀j,(G.order L m).β L j=G.β L (m.getD j 0):=fun j=>by simp[Gh.order]
 have hlv: ∀j,aJ (aF l' j)→j<m.length∧aJ (aF s.lam (m.getD j 0))∧ObRen m (aF s.lam (m.getD j 0)) (aF l' j):=by
  intro j h
  have h1:=(hlg j).live.1 h
  obtain⟨h2,h3⟩:=G7 h1
  have h4:=hlg j
  rw[h3]at h1 h4
  exact⟨h2,h1,h4⟩
 have hlive: ∀lev i,aJ (aC (μ++[l']) lev i)→(lev<L∧aC (μ++[l']) lev i=aC (μ++[s.lam]) lev i∧(G.order L m).β lev i=G.β lev i∧aJ (aC (μ++[s.lam]) lev i))∨
   (lev=L∧i<m.length∧aJ (aC (μ++[s.lam]) L (m.getD i 0))∧(G.order L m).β lev i=G.β L (m.getD i 0)∧ObRen m (aF s.lam (m.getD i 0)) (aF l' i)):=by
  intro lev i h
  rcases cl (s:={fr:=fr',lam:=l',pushed:=false}) hμ h with⟨h1,h2⟩|⟨rfl,h1,h2⟩
  ·have e:aC (μ++[l']) lev i=aC (μ++[s.lam]) lev i:=by rw[aC,aC,bp (by omega),bp (by omega)]
   exact .inl ⟨h1,e,hβ lev i (by omega),by rw[←e];exact h⟩
  ·have h':aJ (aF l' i):=by rw[←eL'];exact h
   obtain⟨a1,a2,a3⟩:=hlv i h'
   exact .inr ⟨rfl,a1,by rw[eL];exact a2,hβL i,a3⟩
 have hown: ∀q b,av (G.order L m) w fr' tm (μ++[l']) q b→(∃t,q= .fr t∧av G w s.fr tm (μ++[s.lam]) q b)∨(∃lev i k,q= .ob lev i k∧lev<L∧av G w s.fr tm (μ++[s.lam]) q b)∨
   (∃i k,q= .ob L i k∧i<m.length∧av G w s.fr tm (μ++[s.lam]) (.ob L (m.getD i 0) k) b):=by
  intro q b h
  cases q with
  |fr t=>exact .inl ⟨t,rfl,((ji h0 (hf t) (R.fr t)).2.1 b).1 h⟩
  |ob lev i k=>
   have hl':=eW h
   rcases hlive lev i hl' with⟨h1,h2,h3,_⟩|⟨rfl,h1,h2,h3,h4⟩
   ·exact .inr (.inl ⟨lev,i,k,rfl,h1,gx (fr':=fr') (tm':=tm) h2 h3 rfl h⟩)
   ·refine .inr (.inr ⟨i,k,rfl,h1,?_⟩)
    simp only[av,eL',h3]at h
    split at h<;>try(exact h.elim)
    rename_i ds hds
    split at h<;>try(exact h.elim)
    rename_i y hy
    obtain⟨cur,e',fz,hb,ho⟩:=h
    rw[hds]at h4
    generalize hq:aF s.lam (m.getD i 0)=q at h4
    cases h4 with
    |cells hr=>
     obtain⟨_,hg⟩:=mO hr
     obtain⟨x,hx,hxy⟩:=hg k y hy
     have hob:=R.lam (m.getD i 0)
     rw[hq]at hob
     simp only[ObR]at hob
     obtain⟨cur2,e2,fz2,hb2,_,_,_,hrr⟩:=hob
     rw[hb2]at hb
     obtain⟨rfl,rfl,rfl⟩:=(Obj.cells.injEq ..).mp (Option.some.inj hb)
     simp only[av,eL,hq,hx]
     exact⟨cur2,e2,fz2,hb2,((ji h0 hxy (hrr k x hx)).2.1 b).1 ho⟩
 have hget: ∀{i j:Nat},i<m.length→j<m.length→m.getD i 0=m.getD j 0→i=j:=by
  intro i j hi hj e
  rw[List.getD_eq_getElem?_getD,List.getD_eq_getElem?_getD,List.getElem?_eq_getElem hi,List.getElem?_eq_getElem hj]at e
  exact(List.getElem_inj hm).1 (by simpa using e)
 have hsz: ∀j,(G.order L m).sz L j=G.sz L (m.getD j 0):=fun j=>by simp[Gh.order]
 refine⟨⟨hμ,fun t=> ?_,fun i=> ?_,fun lev i hlt=> ?_,fun lev i lev' i' h h' e=> ?_,fun q q' b h h'=> ?_,fun q b lev i h h' e=> ?_,R.nlt,?_,R.ngt⟩,⟨hle,rfl,rfl,rfl,Nat.le_refl _,fun _ _ _=>⟨rfl,rfl⟩,fun b hb=> .inl ?_,fun l hlt=>⟨fun i=> ?_,rfl⟩⟩⟩
 ·simp only[hll']
  exact(ji h0 (hf t) (R.fr t)).1
 ·simp only[hll',hβL,hsz]
  by_cases hd:aJ (aF l' i)
  ·obtain⟨_,_,hr⟩:=hlv i hd
   have hob:=R.lam (m.getD i 0)
   revert hob hr
   generalize aF s.lam (m.getD i 0)=q
   generalize aF l' i=q'
   intro hr hob
   cases hr with
   |dead=>trivial
   |arr=>
    simp only[ObR]at hob ⊢
    obtain⟨hk,cur,e,fz,h1,h2,h3,h4,h5⟩:=hob
    exact⟨hk,cur,e,fz,h1,h2,h3,h4,fun j x hx=>bc hle x _ (h5 j x hx)⟩
   |map=>
    simp only[ObR]at hob ⊢
    obtain⟨es,clk,h1,h2,h3⟩:=hob
    exact⟨es,clk,h1,h2,jZ hle h3⟩
   |cells hrr=>
    obtain⟨hln,hg⟩:=mO hrr
    simp only[ObR]at hob ⊢
    obtain⟨cur,e,fz,h1,h2,h3,h4,h5⟩:=hob
    refine⟨cur,e,fz,h1,h2,h3,by rw[hln];exact h4,fun j y hy=> ?_⟩
    obtain⟨x,hx,hxy⟩:=hg j y hy
    exact(ji h0 hxy (h5 j x hx)).1
  ·generalize hq:aF l' i=q at hd
   cases q with
   |dead=>trivial
   |cells=>exact absurd trivial hd
   |arr=>exact absurd trivial hd
   |map=>exact absurd trivial hd
 ·have hne:lev≠L:=by omega
  rw[hβ lev i hne,show (G.order L m).sz lev i=G.sz lev i by simp[Gh.order,hne]]
  exact cI (hle.below lev) (Nat.le_refl _) (fun _ h=>by omega) (fun _=>⟨rfl,rfl⟩) (fun _ _ _ _ _ _ _ _ _ _ _=>⟨rfl,rfl⟩) (R.mu lev i hlt)
 ·rcases hlive lev i h with⟨h1,_,h3,h4⟩|⟨rfl,h1,h2,h3,_⟩<;>rcases hlive lev' i' h' with⟨h1',_,h3',h4'⟩|⟨rfl,h1',h2',h3',_⟩
  ·rw[h3,h3']at e;exact R.inj lev i lev' i' h4 h4' e
  ·rw[h3,h3']at e;have:=(R.inj _ _ _ _ h4 h2' e).1;omega
  ·rw[h3,h3']at e;have:=(R.inj _ _ _ _ h2 h4' e).1;omega
  ·rw[h3,h3']at e
   exact⟨rfl,hget h1 h1' (R.inj _ _ _ _ h2 h2' e).2⟩
 ·rcases hown q b h with⟨t,rfl,h1⟩|⟨lev,i,k,rfl,hlt,h1⟩|⟨i,k,rfl,hi,h1⟩<;>rcases hown q' b h' with⟨t',rfl,h1'⟩|⟨lev',i',k',rfl,hlt',h1'⟩|⟨i',k',rfl,hi',h1'⟩
  ·exact R.own _ _ b h1 h1'
  ·exact R.own _ _ b h1 h1'
  ·have:=R.own _ _ b h1 h1';cases this
  ·exact R.own _ _ b h1 h1'
  ·exact R.own _ _ b h1 h1'
  ·have:=R.own _ _ b h1 h1';injection this with a1 a2 a3;omega
  ·have:=R.own _ _ b h1 h1';cases this
  ·have:=R.own _ _ b h1 h1';injection this with a1 a2 a3;omega
  ·have:=R.own _ _ b h1 h1'
   injection this with a1 a2 a3
   rw[hget hi hi' a2,a3]
 ·have hlv': ∃lev2 i2,aJ (aC (μ++[s.lam]) lev2 i2)∧G.β lev2 i2=b:=by
   rcases hlive lev i h' with⟨h1,_,h3,h4⟩|⟨rfl,h1,h2,h3,_⟩
   ·exact⟨lev,i,h4,by rw[←h3];exact e⟩
   ·exact⟨_,_,h2,by rw[←h3];exact e⟩
  obtain⟨lev2,i2,h2,e2⟩:=hlv'
  rcases hown q b h with⟨t,rfl,h1⟩|⟨lev,i,k,rfl,hlt,h1⟩|⟨i,k,rfl,hi,h1⟩
  ·exact R.apart _ b lev2 i2 h1 h2 e2
  ·exact R.apart _ b lev2 i2 h1 h2 e2
  ·exact R.apart _ b lev2 i2 h1 h2 e2
 ·simp only[Bool.false_eq_true,if_false]
  exact h0
 ·rcases hb with⟨q,hb⟩|⟨lev,i,hb,e⟩
  ·rcases hown q b hb with⟨t,rfl,h1⟩|⟨lev,i,k,rfl,hlt,h1⟩|⟨i,k,rfl,hi,h1⟩
   ·exact .inl ⟨_,h1⟩
   ·exact .inl ⟨_,h1⟩
   ·exact .inl ⟨_,h1⟩
  ·rcases hlive lev i hb with⟨h1,_,h3,h4⟩|⟨rfl,h1,h2,h3,_⟩
   ·exact .inr ⟨lev,i,h4,by rw[←h3];exact e⟩
   ·exact .inr ⟨_,_,h2,by rw[←h3];exact e⟩
 ·have hne:l≠L:=by omega
  simp[Gh.order,hne]
theorem Hj {mo nl:Nat}{x y:LV}{v:Value}(h:xg mo x=some y)(hx:LVR G w L nl x v):LVR G w L nl y v∧ ∀b,aD y v b→aD x v b:=by
 unfold xg at h
 split at h
 ·simp only[Option.some.injEq]at h
  subst h
  exact⟨iz hx,fun b hb=>absurd hb gG⟩
 ·obtain⟨xs,h1,h2⟩:=ab.1 h
  simp only[Option.some.injEq]at h2
  subst h2
  exact gN h1 hx
 ·obtain⟨xs,h1,h2⟩:=ab.1 h
  simp only[Option.some.injEq]at h2
  subst h2
  exact⟨by simp only[LVR];exact fw h1 hx,fun b hb=>by simp[aD]at hb⟩
theorem yW {fr:Fr}: ∀{live:List (Nat×Nat)} {vs:List LV},qg fr live=some vs→ ∀t,dl (gX (live.map Prod.fst) vs) t= .cv .undef∨ ∃mo y,xg mo (fr t)=some y∧dl (gX (live.map Prod.fst) vs) t=y
 |[],vs,h,t=>by simp only[qg,Option.some.injEq]at h;subst h;exact .inl rfl
 |q::r,vs,h,t=>by
  simp only[qg]at h
  obtain⟨v,h1,h⟩:=ab.1 h
  obtain⟨l,h2,h⟩:=ab.1 h
  simp only[Option.some.injEq]at h
  subst h
  simp only[List.map_cons,gX,dl]
  split
  ·rename_i e
   have:=Nat.eq_of_beq_eq_true e
   subst this
   exact .inr ⟨q.2,v,h1,rfl⟩
  ·exact yW h2 t
theorem uz {m:List Nat}: ∀{ts:List Nat} {vs us:List LV},dF m vs=some us→ ∀t,eu m (dl (gX ts vs) t)=some (dl (gX ts us) t)
 |[],vs,us,h,t=>by simp[gX,dl,eu]
 |u::ts,[],us,h,t=>by simp only[dF,Option.some.injEq]at h;subst h;simp[gX,dl,eu]
 |u::ts,v::vs,us,h,t=>by
  simp only[dF]at h
  obtain⟨y,h1,h⟩:=ab.1 h
  obtain⟨l,h2,h⟩:=ab.1 h
  simp only[Option.some.injEq]at h
  subst h
  simp only[gX,dl]
  split
  ·exact h1
  ·exact uz h2 t
theorem Rel.weaken (R:Rel G L s μ tm w){i:Nat}{cs cs':List LV}(ho:aF s.lam i= .cells cs)(hl:cs'.length=cs.length)
  (hc: ∀(k:Nat) x',cs'[k]? =some x'→ ∃x,cs[k]? =some x∧ ∀v,LVR G w L s.lam.length x v→LVR G w L s.lam.length x' v∧ ∀b,aD x' v b→aD x v b):
  Rel G L {s with lam:=s.lam.set i (.cells cs')} μ tm w∧Ext L (ax G w s μ tm) G w G w (ax G w {s with lam:=s.lam.set i (.cells cs')} μ tm):=by
 have hμ:=R.lev
 have hi:i<s.lam.length:=lB (by rw[ho];trivial)
 have eL: ∀(l:Lam) j,aC (μ++[l]) L j=aF l j:=fun l j=>by rw[←hμ];exact bL
 have hlam: ∀j,aF (s.lam.set i (.cells cs')) j=if j=i then .cells cs' else aF s.lam j:=by
  intro j
  simp only[aF]
  by_cases e:j=i
  ·subst e;rw[List.getElem?_set_self hi];simp
  ·rw[List.getElem?_set_ne (by omega)];simp[e]
 have hlt: ∀lev j,lev<L→aC (μ++[s.lam.set i (.cells cs')]) lev j=aC (μ++[s.lam]) lev j:=fun lev j h=>by rw[aC,aC,bp (by omega),bp (by omega)]
 have hgt: ∀(l:Lam) lev j,L<lev→aC (μ++[l]) lev j= .dead:=fun l lev j h=>by rw[aC,ng (by omega)]
 have hlive: ∀lev j,aJ (aC (μ++[s.lam.set i (.cells cs')]) lev j)→aJ (aC (μ++[s.lam]) lev j):=by
  intro lev j h
  rcases Nat.lt_trichotomy lev L with h1|h1|h1
  ·rw[hlt lev j h1]at h;exact h
  ·subst h1
   rw[eL,hlam]at h
   rw[eL]
   split at h
   ·rename_i e;rw[e,ho];trivial
   ·exact h
  ·rw[hgt _ lev j h1]at h;exact h.elim
 have hob:=R.lam i
 rw[ho]at hob
 simp only[ObR]at hob
 obtain⟨cur,e,fz,h1,h2,h3,h4,h5⟩:=hob
 have hown: ∀q b,av G w s.fr tm (μ++[s.lam.set i (.cells cs')]) q b→av G w s.fr tm (μ++[s.lam]) q b:=by
  intro q b h
  cases q with
  |fr t=>exact h
  |ob lev j k=>
   simp only[av]at h ⊢
   rcases Nat.lt_trichotomy lev L with h6|h6|h6
   ·rw[hlt lev j h6]at h;exact h
   ·subst h6
    rw[eL,hlam]at h
    rw[eL]
    by_cases ej:j=i
    ·subst ej
     simp only[if_true]at h
     split at h<;>try(exact h.elim)
     rename_i x' hx'
     obtain⟨x,hx,hv⟩:=hc k x' hx'
     obtain⟨cur2,e2,fz2,hb2,ho2⟩:=h
     rw[h1]at hb2
     obtain⟨rfl,rfl,rfl⟩:=(Obj.cells.injEq ..).mp (Option.some.inj hb2)
     rw[ho]
     simp only[hx]
     exact⟨cur,e,fz,h1,(hv _ (h5 k x hx)).2 b ho2⟩
    ·rw[if_neg ej]at h;exact h
   ·rw[hgt _ lev j h6]at h;exact h.elim
 refine⟨⟨hμ,fun t=> ?_,fun j=> ?_,R.mu,fun lev j lev' j' h h'=>R.inj lev j lev' j' (hlive lev j h) (hlive lev' j' h'),fun q q' b h h'=>R.own q q' b (hown q b h) (hown q' b h'),fun q b lev j h h'=>R.apart q b lev j (hown q b h) (hlive lev j h'),R.nlt,?_,R.ngt⟩,Ext.refl G w fun b hb=> ?_⟩
 ·simp only[List.length_set];exact R.fr t
 ·simp only[List.length_set]
  rw[hlam]
  split
  ·rename_i ej
   subst ej
   simp only[ObR]
   refine⟨cur,e,fz,h1,h2,h3,by rw[hl];exact h4,fun k x' hx'=> ?_⟩
   obtain⟨x,hx,hv⟩:=hc k x' hx'
   exact(hv _ (h5 k x hx)).1
  ·exact R.lam j
 ·simp only[List.length_set];exact R.nL
 ·rcases hb with⟨q,hb⟩|⟨lev,j,hb,e⟩
  ·exact .inl ⟨q,hown q b hb⟩
  ·exact .inr ⟨lev,j,hlive lev j hb,e⟩
theorem pZ {α:Type}{nl:Nat}: ∀{ms:List Nat} {cs:List LV} {k:List LV→Option α} {r:α},fb ms cs k=some r→
  ∃cs',k cs'=some r∧cs'.length=cs.length∧ ∀(j:Nat) x',cs'[j]? =some x'→ ∃x,cs[j]? =some x∧ ∀v,LVR G w L nl x v→LVR G w L nl x' v∧ ∀b,aD x' v b→aD x v b
 |[],cs,k,r,h=>⟨cs,h,rfl,fun j x hx=>⟨x,hx,fun v hv=>⟨hv,fun _ hb=>hb⟩⟩⟩
 |m::ms,[],k,r,h=>by simp[fb]at h
 |m::ms,c::cs,k,r,h=>by
  simp only[fb,xb]at h
  have key: ∀c',(fb ms cs fun r=>k (c'::r))=some r→(∀v,LVR G w L nl c v→LVR G w L nl c' v∧ ∀b,aD c' v b→aD c v b)→
    ∃cs',k cs'=some r∧cs'.length=(c::cs).length∧ ∀(j:Nat) x',cs'[j]? =some x'→ ∃x,(c::cs)[j]? =some x∧ ∀v,LVR G w L nl x v→LVR G w L nl x' v∧ ∀b,aD x' v b→aD x v b:=by
   intro c' h hc
   obtain⟨cs',h1,h2,h3⟩:=pZ h
   refine⟨c'::cs',h1,by simp[h2],fun j x' hx'=> ?_⟩
   cases j with
   |zero=>simp only[List.getElem?_cons_zero,Option.some.injEq]at hx';subst hx';exact⟨c,rfl,hc⟩
   |succ j=>exact h3 j x' (by simpa using hx')
  split at h
  ·exact key c h fun v hv=>⟨hv,fun _ hb=>hb⟩
  ·obtain⟨xs,h1,h2⟩:=ab.1 h
   exact key _ h2 fun v hv=>gN h1 hv
  ·obtain⟨x,h1,h2⟩:=ab.1 h
   exact key _ h2 fun v hv=>⟨by simp only[LVR];exact ec h1 hv,fun b hb=>by simp[aD]at hb⟩
  ·obtain⟨xs,h1,h2⟩:=ab.1 h
   exact key _ h2 fun v hv=>⟨by simp only[LVR];exact fw h1 hv,fun b hb=>by simp[aD]at hb⟩
theorem Rel.setPushed (R:Rel G L s μ tm w):Rel (G.push L s.lam.length) L {s with pushed:=true} μ tm w∧
  Ext L (ax G w s μ tm) G w (G.push L s.lam.length) w (ax (G.push L s.lam.length) w {s with pushed:=true} μ tm):=by
 have hle:Le G w (G.push L s.lam.length) w:=jn fun i h=>by
  have:=R.nL
  cases hp:s.pushed<;>simp[hp]at this<;>omega
 have hbel: ∀lev,lev<L→(G.push L s.lam.length).below lev=G.below lev:=by
  intro lev h
  simp only[Gh.below,Gh.push,Gh.mk.injEq,true_and,and_true]
  funext l
  by_cases hl:l≤lev
  ·simp only[hl,if_true]
   rw[if_neg (by omega)]
  ·simp only[hl,if_false]
 have hO: ∀q b,av (G.push L s.lam.length) w s.fr tm (μ++[s.lam]) q b→av G w s.fr tm (μ++[s.lam]) q b:=by
  intro q b h
  cases q<;>exact h
 refine ⟨⟨R.lev, fun t => cQ hle (Nat.le_refl _) (fun i _ => ⟨rfl, rfl⟩) _ _ (fun b _ => ⟨rfl, rfl⟩) (R.fr t), fun i => ?_, fun lev i h => ?_, R.inj,
  fun q q' b h h'=>R.own q q' b (hO q b h) (hO q' b h'),fun q b lev i h h'=>R.apart q b lev i (hO q b h) h',fun lev h=> ?_,?_,fun lev h=> ?_⟩,?_⟩
 ·exact cI hle (Nat.le_refl _) (fun i _=>⟨rfl,rfl⟩) (fun _=>⟨rfl,rfl⟩) (fun _ _ _ _ _ _ _ _ _ _ _=>⟨rfl,rfl⟩) (R.lam i)
 ·rw[hbel lev h];exact R.mu lev i h
 ·simp only[Gh.push];rw[if_neg (by omega)];exact R.nlt lev h
 ·simp[Gh.push]
 ·simp only[Gh.push];rw[if_neg (by omega)];exact R.ngt lev h
 ·refine⟨hle,rfl,rfl,rfl,Nat.le_refl _,fun _ _ _=>⟨rfl,rfl⟩,fun b hb=> .inl ?_,fun l hl=>⟨fun _=>⟨rfl,rfl⟩,?_⟩⟩
  ·rcases hb with⟨q,hb⟩|hb
   ·exact .inl ⟨q,hO q b hb⟩
   ·exact .inr hb
  ·simp only[Gh.push];rw[if_neg (by omega)]
theorem jf {α:Type}: ∀{obs:List (Nat×List Nat)} {G:Gh} {s:S} {k:S→Option α} {r:α},jE obs s k=some r→Rel G L s μ tm w→
  ∃s' G',k s'=some r∧Rel G' L s' μ tm w∧Ext L (ax G w s μ tm) G w G' w (ax G' w s' μ tm)
 |[],G,s,k,r,h,R=>⟨s,G,h,R,Ext.refl G w fun _ hb=>hb⟩
 |q::l,G,s,k,r,h,R=>by
  simp only[jE]at h
  split at h
  ·obtain⟨R1,E1⟩:=R.setPushed
   obtain⟨s',G',h4,R2,E2⟩:=jf h R1
   exact⟨s',G',h4,R2,E1.trans E2⟩
  split at h<;>try(simp at h;done)
  rename_i cs ho
  obtain⟨cs',h1,h2,h3⟩:=pZ (G:=G) (w:=w) (L:=L) (nl:=s.lam.length) h
  obtain⟨R1,E1⟩:=R.weaken ho h2 h3
  obtain⟨s',G',h4,R2,E2⟩:=jf h1 R1
  exact⟨s',G',h4,R2,E1.trans E2⟩
theorem di {α:Type}{live:List (Nat×Nat)}{k:S→Option α}{r:α}(h:dh live s k=some r)(R:Rel G L s μ tm w):
  ∃s' G',k s'=some r∧Rel G' L s' μ tm w∧Ext L (ax G w s μ tm) G w G' w (ax G' w s' μ tm):=by
 unfold dh at h
 obtain⟨vs,h1,h⟩:=ab.1 h
 obtain⟨R1,hO⟩:=R.refr (fr':=dl (gX (live.map Prod.fst) vs)) fun t=>by
  rcases yW h1 t with e|⟨mo,y,h2,e⟩
  ·rw[e];exact⟨by simp[LVR,VR],fun b hb=>by simp[aD]at hb⟩
  ·rw[e];exact Hj h2 (R.fr t)
 have E1:Ext L (ax G w s μ tm) G w G w (ax G w {s with fr:=dl (gX (live.map Prod.fst) vs)} μ tm):=Ext.refl G w fun b hb=>by
  rcases hb with⟨l,hb⟩|hb
  ·exact .inl ⟨l,hO l b hb⟩
  ·exact .inr hb
 split at h
 ·exact⟨_,G,h,R1,E1⟩
 ·rename_i hp
  obtain⟨us,h2,h⟩:=ab.1 h
  obtain⟨l,h3,h⟩:=ab.1 h
  obtain⟨R2,E2⟩:=R1.reorder hp (jU _ _ _ _ (by simp)) (uz h2) h3
  exact⟨_,_,h,R2,E1.trans E2⟩
theorem jJ {x y:Bool}(h:(match x with|true=>y|false=>false)=true):x=true∧y=true:=by
 cases x<;>simp_all
theorem tR {m:Nat}:Le (G.cut L) w ((G.cut L).push L m) w:=jn fun i h=>by simp[Gh.cut]at h
theorem Im {m:Nat}(hg: ∀lev,L<lev→G.n lev=0){c:CV}{v:Value}(hb:uI L m c=true)(h:VR G w c v):VR ((G.cut L).push L m) w c v:=by
 have key: ∀c:CV,below L c=true→VR G w c v→VR ((G.cut L).push L m) w c v:=fun c hb h=>bc tR _ _ (dz c v hb h)
 cases c with
 |ref lev i off=>
  simp only[VR]at h ⊢
  refine⟨?_,h.2⟩
  simp only[Gh.push,Gh.cut]
  simp only[uI]at hb
  split at hb
  ·rename_i hl
   have hl:lev<L:=by simpa using hl
   rw[if_neg (by omega),if_pos hl]
   exact h.1
  ·rename_i hl
   have hl: ¬lev<L:=fun h=>by rw[←Nat.blt_eq]at h;rw[h]at hl;cases hl
   have:lev=L:=by
    rcases Nat.lt_or_ge L lev with h1|h1
    ·have:=hg lev h1;omega
    ·omega
   rw[if_pos this]
   simpa using hb
 |tref lev i t n=>
  simp only[VR]at h ⊢
  refine⟨?_,h.2⟩
  simp only[Gh.push,Gh.cut]
  simp only[uI]at hb
  split at hb
  ·rename_i hl
   have hl:lev<L:=by simpa using hl
   rw[if_neg (by omega),if_pos hl]
   exact h.1
  ·rename_i hl
   have hl: ¬lev<L:=fun h=>by rw[←Nat.blt_eq]at h;rw[h]at hl;cases hl
   have:lev=L:=by
    rcases Nat.lt_or_ge L lev with h1|h1
    ·have:=hg lev h1;omega
    ·omega
   rw[if_pos this]
   simpa using hb
 |_=>exact key _ hb h
mutual
theorem pe {m nl:Nat}(hg: ∀lev,L<lev→G.n lev=0): ∀(x:LV) (v:Value),gE L m x=true→LVR G w L nl x v→LVR ((G.cut L).push L m) w L m x v
 | .cv c,v,hb,h=>by
  simp only[LVR]at h ⊢
  exact Im hg hb h
 | .osl xs,v,hb,h=>by
  simp only[LVR]at h ⊢
  have:=vM (m:=L) hb h
  rcases this with h|⟨b,cap,cur,e,s,h1,h2,h3,h4,h5,h6,h7,h8,h9,h10⟩
  ·exact .inl h
  ·exact .inr ⟨b,cap,cur,e,s,h1,h2,h3,h4,h5,h6,h7,dB tR b s 0 xs h8,h9,h10⟩
 | .loc i off,v,hb,h=>by
  simp only[LVR]at h ⊢
  exact⟨by simpa[gE]using hb,h.2⟩
 | .lsl i off len,v,hb,h=>by
  simp only[LVR]at h ⊢
  exact⟨by simpa[gE]using hb,h.2⟩
 | .mloc i,v,hb,h=>by
  simp only[LVR]at h ⊢
  exact⟨by simpa[gE]using hb,h.2⟩
 | .tloc i t n,v,hb,h=>by
  simp only[LVR]at h ⊢
  exact⟨by simpa[gE]using hb,h.2⟩
 | .lclo f caps,v,hb,h=>by
  simp only[LVR]at h ⊢
  obtain⟨vs,e,hl⟩:=h
  exact⟨vs,e,tA hg caps _ (by simpa[gE]using hb) hl⟩
 | .ltup xs,v,hb,h=>by simp[gE]at hb
theorem tA {m nl:Nat}(hg: ∀lev,L<lev→G.n lev=0): ∀(xs:List LV) (vs:List Value),ic L m xs=true→bH G w L nl xs vs→bH ((G.cut L).push L m) w L m xs vs
 |[],vs,hb,h=>by simpa[bH]using h
 |x::xs,vs,hb,h=>by
  simp only[bH]at h ⊢
  simp only[ic]at hb
  obtain⟨hb1,hb2⟩:=jJ hb
  obtain⟨v,r,e,h0,h1,h2⟩:=h
  exact⟨v,r,e,h0,pe hg x v hb1 h1,tA hg xs r hb2 h2⟩
end
theorem uJ {m:Nat}: ∀{xs:List LV} {j:Nat} {x:LV},ic L m xs=true→xs[j]? =some x→gE L m x=true
 |[],j,x,hb,h=>by simp at h
 |y::ys,j,x,hb,h=>by
  simp only[ic]at hb
  obtain⟨hb1,hb2⟩:=jJ hb
  cases j with
  |zero=>simp only[List.getElem?_cons_zero,Option.some.injEq]at h;subst h;exact hb1
  |succ j=>exact uJ hb2 (by simpa using h)
theorem tJ {m:Nat}: ∀{xs:List CV} {j:Nat} {x:CV},bO m xs=true→xs[j]? =some x→below m x=true
 |[],j,x,hb,h=>by simp at h
 |y::ys,j,x,hb,h=>by
  obtain⟨hb1,hb2⟩:=a8 hb
  cases j with
  |zero=>simp only[List.getElem?_cons_zero,Option.some.injEq]at h;subst h;exact hb1
  |succ j=>exact tJ hb2 (by simpa using h)
theorem qL {m:Nat}: ∀{xs:List Ob} {j:Nat} {x:Ob},lN L m xs=true→xs[j]? =some x→vJ L m x=true
 |[],j,x,hb,h=>by simp at h
 |y::ys,j,x,hb,h=>by
  simp only[lN]at hb
  obtain⟨hb1,hb2⟩:=jJ hb
  cases j with
  |zero=>simp only[List.getElem?_cons_zero,Option.some.injEq]at h;subst h;exact hb1
  |succ j=>exact qL hb2 (by simpa using h)
theorem FO {m nl b sz:Nat}(hg: ∀lev,L<lev→G.n lev=0){o:Ob}(hb:vJ L m o=true)(h:ObR G w L nl b sz o):ObR ((G.cut L).push L m) w L m b sz o:=by
 cases o with
 |dead=>trivial
 |cells cs=>
  simp only[ObR]at h ⊢
  obtain⟨cur,e,fz,h1,h2,h3,h4,h5⟩:=h
  exact⟨cur,e,fz,h1,h2,h3,h4,fun j x hx=>pe hg x _ (uJ hb hx) (h5 j x hx)⟩
 |arr k cs=>
  simp only[ObR]at h ⊢
  obtain⟨hk,cur,e,fz,h1,h2,h3,h4,h5⟩:=h
  exact⟨hk,cur,e,fz,h1,h2,h3,h4,fun j x hx=>bc tR _ _ (dz x _ (tJ hb hx) (h5 j x hx))⟩
 |map ks vs=>
  simp only[ObR]at h ⊢
  obtain⟨es,clk,h1,h2,h3⟩:=h
  exact⟨es,clk,h1,h2,h3.1,fC tR _ _ (m0 vs _ hb h3.2)⟩
theorem Rel.trunc (R:Rel G L s μ tm w)(hp:s.pushed=true){m:Nat}(hm:m≤s.lam.length)(hf: ∀t,gE L m (s.fr t)=true)(hl:lN L m (s.lam.take m)=true):
  Rel ((G.cut L).push L m) L {s with lam:=s.lam.take m} μ tm w∧(∀b,ax ((G.cut L).push L m) w {s with lam:=s.lam.take m} μ tm b→ax G w s μ tm b):=by
 have hμ:=R.lev
 have hlen:(s.lam.take m).length=m:=by simp;omega
 have eL: ∀(l:Lam) j,aC (μ++[l]) L j=aF l j:=fun l j=>by rw[←hμ];exact bL
 have hlt: ∀lev j,lev<L→aC (μ++[s.lam.take m]) lev j=aC (μ++[s.lam]) lev j:=fun lev j h=>by rw[aC,aC,bp (by omega),bp (by omega)]
 have hgt: ∀(l:Lam) lev j,L<lev→aC (μ++[l]) lev j= .dead:=fun l lev j h=>by rw[aC,ng (by omega)]
 have hlam: ∀i,aF (s.lam.take m) i=if i<m then aF s.lam i else .dead:=by
  intro i
  by_cases h:i<m
  ·rw[if_pos h];simp only[aF,List.getElem?_take_of_lt h]
  ·rw[if_neg h];simp only[aF];rw[List.getElem?_take_eq_none (by omega)]
 have hat: ∀lev i,aC (μ++[s.lam.take m]) lev i=aC (μ++[s.lam]) lev i∨aC (μ++[s.lam.take m]) lev i= .dead:=by
  intro lev i
  rcases Nat.lt_trichotomy lev L with h|h|h
  ·exact .inl (hlt lev i h)
  ·subst h
   rw[eL,eL,hlam]
   split
   ·exact .inl rfl
   ·exact .inr rfl
  ·exact .inr (hgt _ lev i h)
 have hlive: ∀lev i,aJ (aC (μ++[s.lam.take m]) lev i)→aJ (aC (μ++[s.lam]) lev i):=by
  intro lev i h
  rcases hat lev i with e|e
  ·rw[←e];exact h
  ·rw[e]at h;exact h.elim
 have hown: ∀q b,av ((G.cut L).push L m) w s.fr tm (μ++[s.lam.take m]) q b→av G w s.fr tm (μ++[s.lam]) q b:=by
  intro q b h
  cases q with
  |fr t=>exact h
  |ob lev i k=>
   rcases hat lev i with e|e
   ·simp only[av]at h ⊢
    rw[e]at h
    exact h
   ·simp only[av,e]at h
 have hbel: ∀lev,lev<L→((G.cut L).push L m).below lev=G.below lev:=by
  intro lev h
  simp only[Gh.below,Gh.push,Gh.cut,Gh.mk.injEq,true_and,and_true]
  funext l
  by_cases hl:l≤lev
  ·simp only[hl,if_true]
   rw[if_neg (by omega),if_pos (by omega)]
  ·simp only[hl,if_false]
 refine ⟨⟨R.lev, fun t => ?_, fun i => ?_, fun lev i h => ?_, fun lev i lev' i' h h' e => R.inj lev i lev' i' (hlive _ _ h) (hlive _ _ h') e,
  fun q q' b h h'=>R.own q q' b (hown q b h) (hown q' b h'),fun q b lev i h h'=>R.apart q b lev i (hown q b h) (hlive _ _ h'),fun lev h=> ?_,?_,fun lev h=> ?_⟩,fun b hb=> ?_⟩
 ·show LVR _ w L (s.lam.take m).length _ _
  rw[hlen]
  exact pe R.ngt _ _ (hf t) (R.fr t)
 ·show ObR _ w L (s.lam.take m).length _ _ (aF (s.lam.take m) i)
  rw[hlen,hlam]
  split
  ·rename_i hi
   refine FO R.ngt (qL (j:=i) hl ?_) (R.lam i)
   rw[List.getElem?_take_of_lt hi,aF,List.getElem?_eq_getElem (by omega)]
  ·trivial
 ·rw[hbel lev h];exact R.mu lev i h
 ·simp only[Gh.push,Gh.cut];rw[if_neg (by omega),if_pos h];exact R.nlt lev h
 ·show ((G.cut L).push L m).n L=if s.pushed then(s.lam.take m).length else 0
  rw[hp,hlen];simp[Gh.push]
 ·simp only[Gh.push,Gh.cut];rw[if_neg (by omega),if_neg (by omega)]
 ·rcases hb with⟨q,hb⟩|⟨lev,i,hb,e⟩
  ·exact .inl ⟨q,hown q b hb⟩
  ·exact .inr ⟨lev,i,hlive lev i hb,e⟩
theorem uE {fr:Fr}{m:Nat}: ∀{live:List (Nat×Nat)},ic L m (uK (eA fr live))=true→ ∀t,(dl (eA fr live) t= .cv .undef∨dl (eA fr live) t=fr t)∧gE L m (dl (eA fr live) t)=true
 |[],hb,t=>⟨.inl rfl,rfl⟩
 |q::r,hb,t=>by
  simp only[eA,uK,ic]at hb
  obtain⟨hb1,hb2⟩:=jJ hb
  simp only[eA,dl]
  split
  ·rename_i e
   have:=Nat.eq_of_beq_eq_true e
   subst this
   exact⟨.inr rfl,hb1⟩
  ·exact uE hb2 t
theorem lL {α:Type}{live:List (Nat×Nat)}{k:S→Option α}{r:α}(h:ia L live s k=some r)(R:Rel G L s μ tm w){T:Nat→Prop}{G0:Gh}{w0:World}(E:Ext L T G0 w0 G w (ax G w s μ tm))(h0:G0.n L=0):
  ∃s' G',k s'=some r∧Rel G' L s' μ tm w∧Ext L T G0 w0 G' w (ax G' w s' μ tm):=by
 unfold ia at h
 split at h
 ·exact⟨s,G,h,R,E⟩
 ·rename_i m hm
  obtain⟨hc,h⟩:=aI.1 h
  simp only[Bool.and_eq_true]at hc
  obtain⟨⟨⟨hp,hlen⟩,hu⟩,ho⟩:=hc
  have hsl:=uE (fr:=s.fr) hu
  obtain⟨R1,hO⟩:=R.refr (fr':=dl (eA s.fr live)) fun t=>by
   rcases(hsl t).1 with e|e
   ·rw[e];exact⟨by simp[LVR,VR],fun b hb=>by simp[aD]at hb⟩
   ·rw[e];exact⟨R.fr t,fun _ hb=>hb⟩
  obtain⟨R2,hT⟩:=R1.trunc hp (Nat.le_of_ble_eq_true hlen) (fun t=>(hsl t).2) ho
  have e:({fr:=dl (eA s.fr live),lam:=s.lam.take m,pushed:=true}:S)={s with fr:=dl (eA s.fr live),lam:=s.lam.take m}:=by
   cases s;simp only at hp;subst hp;rfl
  rw[e]at h
  refine⟨_,_,h,R2,⟨⟨E.le.map,fun lev i hi=> ?_,E.le.imm,E.le.blk⟩,E.os,E.tape,E.output,E.size,E.keep,fun b hb=>E.grow b ?_,fun l hl=>⟨(E.lev l hl).1,?_⟩⟩⟩
  ·obtain⟨h1,h2,h3⟩:=E.le.ref lev i hi
   refine⟨?_,h2,h3⟩
   rcases Nat.lt_trichotomy lev L with hl|hl|hl
   ·simp only[Gh.push,Gh.cut];rw[if_neg (by omega),if_pos hl];exact h1
   ·subst hl;omega
   ·have:=R.ngt lev hl;omega
  ·have:=hT b hb
   rcases this with⟨q,hb⟩|hb
   ·exact .inl ⟨q,hO q b hb⟩
   ·exact .inr hb
  ·simp only[Gh.push,Gh.cut];rw[if_neg (by omega),if_pos hl];exact(E.lev l hl).2
end
end Go.Abs
set_option linter.unusedVariables false
set_option linter.unusedSimpArgs false
namespace Go.Abs
open Go
def f9 (L:Nat)(T:Nat→Prop)(G:Gh)(w:World)(n:Nat)(ds:Keep)(s:S)(μ:Mu)(a:Act)(w':World)(G':Gh):Prop:=
 Rel G' L s μ a.tmps w'∧Ext L T G w G' w' (ax G' w' s μ a.tmps)∧a.tmps.size=n∧ds.at a∧G.n L=0
def StR (L:Nat)(T:Nat→Prop)(G:Gh)(w:World)(n:Nat)(ds:Keep):St→Exit→Act→World→Prop
 | .norm s μ,.normal,a,w'=> ∃G',f9 L T G w n ds s μ a w' G'
 | .exit i s μ,.exit j,a,w'=>i=j∧ ∃G',f9 L T G w n ds s μ a w' G'
 | .ret s μ,.ret,a,w'=> ∃G',f9 L T G w n ds s μ a w' G'
 | .panic v s μ,.panic ch,a,w'=> ∃G' pv,ch=[{v:=pv,recovered:=false}]∧VR G' w' v pv∧f9 L T G w n ds s μ a w' G'
 |_,_,_,_=>False
def nD (P:Program)(c:Code)(Q:Exit→Act→World→Prop)(a:Act)(w:World):Prop:=
 ∀(b:Frame) (k:List Item) (cs:List Frame),∃e a' w',Q e a' w'∧Arrives P (lone (b.at a (.code c:: .inLoop c::k)) cs w) b k cs e a' w'
def jo (P:Program)(W0:World)(ρ:Rho):Prop:= ∀H lv c s μ st,ρ.loop H lv c s μ=some st→ ∀L G w a Q T G0 w0 n (ds:Keep),db n ds.slot c=true→Kn W0 w0 T→f9 L T G0 w0 n ds s μ a w G→
 (∀e a' w',StR L T G0 w0 n ds st e a' w'→Q e a' w')→nD P c Q a w
def lp (P:Program)(W0:World)(ρ:Rho):Prop:= ∀H lv c s μ st,ρ.seg H lv c s μ=some st→ ∀L G w a Q T G0 w0 n (ds:Keep),db n ds.slot c=true→Kn W0 w0 T→f9 L T G0 w0 n ds s μ a w G→
 (∀e a' w',StR L T G0 w0 n ds st e a' w'→Q e a' w')→c.wp P Q a w
section
variable {P:Program}{W0:World}{ρ:Rho}{Q:Exit→Act→World→Prop}{a:Act}{w:World}{c:Code}
theorem nD.wp (h:nD P c Q a w):(Code.loop c).wp P Q a w:=by
 intro b k cs
 obtain⟨e,a',w',hq,harr⟩:=h b k cs
 exact⟨e,a',w',hq,.of_steps (.one step_loop) harr⟩
theorem nD.unroll (h:c.wp P (Exit.then (nD P c Q) Q) a w):nD P c Q a w:=by
 intro b k cs
 obtain⟨e,a₁,w₁,hq,harr⟩:=h b (.inLoop c::k) cs
 cases e with
 |normal=>
  obtain⟨e₂,a₂,w₂,hq₂,harr₂⟩:=hq b k cs
  exact⟨e₂,a₂,w₂,hq₂,.of_steps (Steps.trans harr (.one step_inLoop)) harr₂⟩
 |exit id=>exact⟨_,a₁,w₁,hq,.pass (x:= .inLoop c) rfl (fun _ _=> .inl (by simp)) harr⟩
 |goto l=>exact⟨_,a₁,w₁,hq,.pass (x:= .inLoop c) rfl (fun _ _=> .inl (by simp)) harr⟩
 |ret=>exact⟨_,a₁,w₁,hq,.pass (x:= .inLoop c) rfl (fun _ _=> .inl (by simp)) harr⟩
 |panic ch=>exact⟨_,a₁,w₁,hq,.pass (x:= .inLoop c) rfl (fun _ _=> .inl (by simp)) harr⟩
 |outgrown=>exact⟨_,a₁,w₁,hq,.pass (x:= .inLoop c) rfl (fun _ _=> .inl (by simp)) harr⟩
theorem cV (hm:P.follows .mixedOrders=true)(hrho:dP P W0 ρ)(hloop:jo P W0 ρ)(hseg:lp P W0 ρ){H:Hints}: ∀(c:Code) {α:Type} {k:St→Option α} {r:α} {Q:Exit→Act→World→Prop} {L:Nat} {T:Nat→Prop} {G0 G:Gh} {w0 w:World} {n:Nat} {ds:Keep} {s:S} {μ:Mu} {a:Act},
  db n ds.slot c=true→Kn W0 w0 T→bA P ρ H c s μ k=some r→f9 L T G0 w0 n ds s μ a w G→(∀st e a' w',k st=some r→StR L T G0 w0 n ds st e a' w'→Q e a' w')→c.wp P Q a w
 | .skip,α,k,r,Q,L,T,G0,G,w0,w,n,ds,s,μ,a,hc,hkn,h,hs,hk=>by
  simp only[bA]at h
  exact wp_skip (hk _ _ _ _ h ⟨G,hs⟩)
 | .region id ops draw,α,k,r,Q,L,T,G0,G,w0,w,n,ds,s,μ,a,hc,hkn,h,hs,hk=>by
  simp only[bA]at h
  simp only[db]at hc
  obtain⟨R,E,hn,hd,h0⟩:=hs
  split at h
  ·refine wp_region (fK (L:=L) (G0:=G0) (w0:=w0) (T:=T) (n:=n) (ds:=ds) hrho (fun i o ho d hd=>jg hc (by simpa using ho) d hd) hkn ?_ ?_ _ h R E hn hd)
   ·intro s' μ' a' w' G' h' R' E' hn' hd'
    exact hk _ .normal a' w' h' ⟨G',R',E',hn',hd',h0⟩
   ·intro v s' μ' pv a' w' G' h' R' hv E' hn' hd'
    exact hk _ (.panic _) a' w' h' ⟨G',pv,rfl,hv,R',E',hn',hd',h0⟩
  ·obtain⟨hdr,h⟩:=aI.1 h
   refine Au (L:=L) (G0:=G0) (w0:=w0) (T:=T) (n:=n) (ds:=ds) hrho hm hdr (fun i o ho d hd=>jg hc (by simpa using ho) d hd) hkn ?_ h R E hn hd
   intro s' μ' a' w' G' h' R' E' hn' hd'
   exact hk _ .normal a' w' h' ⟨G',R',E',hn',hd',h0⟩
 | .seq x y,α,k,r,Q,L,T,G0,G,w0,w,n,ds,s,μ,a,hc,hkn,h,hs,hk=>by
  simp only[bA]at h
  simp only[db]at hc
  obtain⟨hx,hy⟩:=jJ hc
  refine wp_seq (cV hm hrho hloop hseg x hx hkn h hs fun st e a' w' h' hst=> ?_)
  cases st with
  |norm s' μ'=>
   cases e<;>simp only[StR]at hst
   obtain⟨G',hs'⟩:=hst
   dsimp only at h'
   split at h'
   ·exact cV hm hrho hloop hseg y hy hkn h' hs' hk
   ·obtain⟨s1,G1,h1,R1,E1⟩:=jf h' hs'.1
    obtain⟨s2,G2,h2,R2,E2⟩:=di h1 R1
    obtain⟨s3,G3,h2,R3,E3⟩:=lL (R2.lev▸h2) R2 (hs'.2.1.trans (E1.trans E2)) hs'.2.2.2.2
    obtain⟨st,hst,h3⟩:=ab.1 h2
    exact hseg _ _ _ _ _ _ hst L G3 w' a' Q T G0 w0 n ds hy hkn ⟨R3,E3,hs'.2.2⟩ fun e a' w' hr=>hk st e a' w' h3 hr
  |exit i s' μ'=>cases e<;>first|exact hst.elim|exact hk _ _ _ _ h' hst
  |ret s' μ'=>cases e<;>first|exact hst.elim|exact hk _ _ _ _ h' hst
  |panic v s' μ'=>cases e<;>first|exact hst.elim|exact hk _ _ _ _ h' hst
 | .cond cc x y,α,k,r,Q,L,T,G0,G,w0,w,n,ds,s,μ,a,hc,hkn,h,hs,hk=>by
  simp only[bA]at h
  simp only[db]at hc
  obtain⟨hx,hy⟩:=jJ hc
  obtain⟨b,hb,h⟩:=ab.1 h
  have hv:=b9 (a:=a) hs.1 (eI hb)
  simp only[VR]at hv
  refine wp_cond hv ?_
  cases b with
  |true=>exact cV hm hrho hloop hseg x hx hkn h hs hk
  |false=>exact cV hm hrho hloop hseg y hy hkn h hs hk
 | .block id x,α,k,r,Q,L,T,G0,G,w0,w,n,ds,s,μ,a,hc,hkn,h,hs,hk=>by
  simp only[bA]at h
  simp only[db]at hc
  refine wp_block (cV hm hrho hloop hseg x hc hkn h hs fun st e a' w' h' hst=> ?_)
  cases st with
  |norm s' μ'=>cases e<;>first|exact hst.elim|exact hk _ _ _ _ h' hst
  |exit i s' μ'=>
   cases e<;>first|exact hst.elim|skip
   simp only[StR]at hst
   obtain⟨rfl,hs'⟩:=hst
   simp only[Exit.inBlock]
   dsimp only at h'
   split at h'
   ·rename_i he
    rw[if_pos (Nat.eq_of_beq_eq_true he)]
    exact hk _ .normal _ _ h' hs'
   ·rename_i he
    rw[if_neg fun e=>by subst e;simp[Nat.beq_refl]at he]
    exact hk _ (.exit i) _ _ h' ⟨rfl,hs'⟩
  |ret s' μ'=>cases e<;>first|exact hst.elim|exact hk _ _ _ _ h' hst
  |panic v s' μ'=>cases e<;>first|exact hst.elim|exact hk _ _ _ _ h' hst
 | .loop x,α,k,r,Q,L,T,G0,G,w0,w,n,ds,s,μ,a,hc,hkn,h,hs,hk=>by
  simp only[bA]at h
  simp only[db]at hc
  obtain⟨s1,G1,h1,R1,E1⟩:=jf h hs.1
  obtain⟨s',G',h',R',E'⟩:=di h1 R1
  obtain⟨s3,G3,h',R3,E3⟩:=lL (R'.lev▸h') R' (hs.2.1.trans (E1.trans E')) hs.2.2.2.2
  obtain⟨st,hst,h'⟩:=ab.1 h'
  exact(hloop _ _ _ _ _ _ hst L G3 w a Q T G0 w0 n ds hc hkn ⟨R3,E3,hs.2.2⟩ fun e a' w' hr=>hk st e a' w' h' hr).wp
 | .exit id,α,k,r,Q,L,T,G0,G,w0,w,n,ds,s,μ,a,hc,hkn,h,hs,hk=>by
  simp only[bA]at h
  exact wp_exit (hk _ (.exit id) _ _ h ⟨rfl,G,hs⟩)
 | .ret,α,k,r,Q,L,T,G0,G,w0,w,n,ds,s,μ,a,hc,hkn,h,hs,hk=>by
  simp only[bA]at h
  exact wp_ret (hk _ .ret _ _ h ⟨G,hs⟩)
 | .rangeFunc ..,α,k,r,Q,L,T,G0,G,w0,w,n,ds,s,μ,a,hc,hkn,h,hs,hk=>by simp[bA]at h
 | .scope ..,α,k,r,Q,L,T,G0,G,w0,w,n,ds,s,μ,a,hc,hkn,h,hs,hk=>by simp[bA]at h
 | .label ..,α,k,r,Q,L,T,G0,G,w0,w,n,ds,s,μ,a,hc,hkn,h,hs,hk=>by simp[bA]at h
 | .goto ..,α,k,r,Q,L,T,G0,G,w0,w,n,ds,s,μ,a,hc,hkn,h,hs,hk=>by simp[bA]at h
 | .refuse ..,α,k,r,Q,L,T,G0,G,w0,w,n,ds,s,μ,a,hc,hkn,h,hs,hk=>by simp[bA]at h
theorem zN (hm:P.follows .mixedOrders=true)(hrho:dP P W0 ρ)(hloop:jo P W0 ρ)(hseg:lp P W0 ρ){H:Hints}{lv:List (Nat×Nat)}{c:Code}{s:S}{μ:Mu}{st:St}(h:ky P ρ H lv c s μ=some st){L:Nat}{G G0:Gh}{w w0:World}{a:Act}{Q:Exit→Act→World→Prop}
  {T:Nat→Prop} {n:Nat} {ds:Keep} (hc:db n ds.slot c=true) (hkn:Kn W0 w0 T) (hs:f9 L T G0 w0 n ds s μ a w G) (hQ: ∀e a' w',StR L T G0 w0 n ds st e a' w'→Q e a' w'):nD P c Q a w:=by
 unfold ky at h
 refine .unroll (cV hm hrho hloop hseg c hc hkn h hs fun st1 e a' w' h' hst=> ?_)
 cases st1 with
 |norm s1 μ1=>
  cases e<;>simp only[StR]at hst
  obtain⟨G1,hs1⟩:=hst
  obtain⟨s3,G3,h3,R3,E3⟩:=jf h' hs1.1
  obtain⟨s2,G2,h2,R2,E2⟩:=di h3 R3
  obtain⟨s4,G4,h2,R4,E4⟩:=lL (R2.lev▸h2) R2 (hs1.2.1.trans (E3.trans E2)) hs1.2.2.2.2
  exact hloop _ _ _ _ _ _ h2 L G4 w' a' Q T G0 w0 n ds hc hkn ⟨R4,E4,hs1.2.2⟩ hQ
 |exit i s1 μ1=>
  cases e<;>first|exact hst.elim|skip
  simp only[StR]at hst
  obtain⟨rfl,G1,hs1⟩:=hst
  obtain⟨s2,G2,h2,R2,E2⟩:=di h' hs1.1
  simp only[Option.some.injEq]at h2
  subst h2
  exact hQ (.exit i) a' w' ⟨rfl,G2,R2,hs1.2.1.trans E2,hs1.2.2⟩
 |ret s1 μ1=>
  cases e<;>first|exact hst.elim|skip
  simp only[StR]at hst
  obtain⟨G1,hs1⟩:=hst
  obtain⟨s2,G2,h2,R2,E2⟩:=di h' hs1.1
  simp only[Option.some.injEq]at h2
  subst h2
  exact hQ .ret a' w' ⟨G2,R2,hs1.2.1.trans E2,hs1.2.2⟩
 |panic v s1 μ1=>
  cases e<;>first|exact hst.elim|skip
  simp only[StR]at hst
  obtain⟨G1,pv,rfl,hv,hs1⟩:=hst
  obtain⟨s2,G2,h2,R2,E2⟩:=di h' hs1.1
  simp only[Option.some.injEq]at h2
  subst h2
  exact hQ _ a' w' ⟨G2,pv,rfl,bc E2.le _ _ hv,R2,hs1.2.1.trans E2,hs1.2.2⟩
theorem Ff (hm:P.follows .mixedOrders=true)(hrho:dP P W0 ρ)(hloop:jo P W0 ρ)(hseg:lp P W0 ρ){H:Hints}{lv:List (Nat×Nat)}{c:Code}{s:S}{μ:Mu}{st:St}(h:qA P ρ H lv c s μ=some st){L:Nat}{G G0:Gh}{w w0:World}{a:Act}{Q:Exit→Act→World→Prop}
  {T:Nat→Prop} {n:Nat} {ds:Keep} (hc:db n ds.slot c=true) (hkn:Kn W0 w0 T) (hs:f9 L T G0 w0 n ds s μ a w G) (hQ: ∀e a' w',StR L T G0 w0 n ds st e a' w'→Q e a' w'):c.wp P Q a w:=by
 unfold qA at h
 refine cV hm hrho hloop hseg c hc hkn h hs fun st1 e a' w' h' hst=> ?_
 cases st1 with
 |norm s1 μ1=>
  cases e<;>simp only[StR]at hst
  obtain⟨G1,hs1⟩:=hst
  obtain⟨s2,G2,h2,R2,E2⟩:=di h' hs1.1
  simp only[Option.some.injEq]at h2
  subst h2
  exact hQ .normal a' w' ⟨G2,R2,hs1.2.1.trans E2,hs1.2.2⟩
 |exit i s1 μ1=>
  cases e<;>first|exact hst.elim|skip
  simp only[StR]at hst
  obtain⟨rfl,G1,hs1⟩:=hst
  obtain⟨s2,G2,h2,R2,E2⟩:=di h' hs1.1
  simp only[Option.some.injEq]at h2
  subst h2
  exact hQ (.exit i) a' w' ⟨rfl,G2,R2,hs1.2.1.trans E2,hs1.2.2⟩
 |ret s1 μ1=>
  cases e<;>first|exact hst.elim|skip
  simp only[StR]at hst
  obtain⟨G1,hs1⟩:=hst
  obtain⟨s2,G2,h2,R2,E2⟩:=di h' hs1.1
  simp only[Option.some.injEq]at h2
  subst h2
  exact hQ .ret a' w' ⟨G2,R2,hs1.2.1.trans E2,hs1.2.2⟩
 |panic v s1 μ1=>
  cases e<;>first|exact hst.elim|skip
  simp only[StR]at hst
  obtain⟨G1,pv,rfl,hv,hs1⟩:=hst
  obtain⟨s2,G2,h2,R2,E2⟩:=di h' hs1.1
  simp only[Option.some.injEq]at h2
  subst h2
  exact hQ _ a' w' ⟨G2,pv,rfl,bc E2.le _ _ hv,R2,hs1.2.1.trans E2,hs1.2.2⟩
end
section
variable {P:Program}{W0:World}{ρ:Rho}{L:Nat}{G G':Gh}{w w':World}{s:S}{μ μ':Mu}{tm:Array Value}
def uA (tm:Array Value)(x:ResultVar):Sem Value:=match x with
 | .tmp t=>pure (tm.getD t undef)
 | .cell a t=>do loadVar t (←asAddr (tm.getD a undef))
theorem JN (R:Rel G L s μ tm w){x:ResultVar}{y:LV}(h:Fd P s x=some y): ∃v,(uA tm x).run P w= .ok v w∧LVR G w L s.lam.length y v∧ ∀b,aD y v b→ ∃t,aD (s.fr t) (tm.getD t undef) b:=by
 cases x with
 |tmp t=>
  simp only[Fd,Option.some.injEq]at h
  subst h
  exact⟨_,rfl,R.fr t,fun b hb=>⟨t,hb⟩⟩
 |cell c t=>
  simp only[Fd]at h
  split at h<;>try(simp at h;done)
  rename_i i off he
  have hv:=R.fr c
  rw[he]at hv
  simp only[LVR]at hv
  unfold bv at h
  obtain⟨d,hd,h⟩:=ab.1 h
  obtain⟨cv,h1,h2,h3⟩:=lG (R.lam i) h ⟨d,hd⟩
  refine⟨cv,?_,h2,fun b hb=>absurd hb (h3 b)⟩
  simp only[Instr.loadAt,Instr.sureAddr,Sem.run_bind,Sem.run_pure,Result.andThen_ok]at h1
  simp only[uA,hv.2,asAddr,Sem.run_bind,Sem.run_pure,Result.andThen_ok]
  exact h1
theorem wG (R:Rel G L s μ tm w): ∀{l:List ResultVar} {ys:List LV},rk P s l=some ys→ ∃vs:List Value,(l.mapM (uA tm)).run P w= .ok vs w∧vs.length=ys.length∧
  ∀j y,ys[j]? =some y→LVR G w L s.lam.length y (vs.getD j undef)∧ ∀b,aD y (vs.getD j undef) b→ ∃t,aD (s.fr t) (tm.getD t undef) b
 |[],ys,h=>by
  simp only[rk,Option.some.injEq]at h
  subst h
  exact⟨[],by simp,rfl,fun j y hy=>by simp at hy⟩
 |x::r,ys,h=>by
  simp only[rk]at h
  obtain⟨y,h1,h⟩:=ab.1 h
  obtain⟨l,h2,h⟩:=ab.1 h
  simp only[Option.some.injEq]at h
  subst h
  obtain⟨v,k1,k2,k3⟩:=JN R h1
  obtain⟨vs,k4,k5,k6⟩:=wG R h2
  refine⟨v::vs,by simp only[List.mapM_cons,Sem.run_bind,k1,Result.andThen_ok,k4,Sem.run_pure],by simp[k5],fun j z hz=> ?_⟩
  cases j with
  |zero=>simp only[List.getElem?_cons_zero,Option.some.injEq]at hz;subst hz;simpa using And.intro k2 k3
  |succ j=>simpa using k6 j z (by simpa using hz)
theorem BK (R:Rel G L s μ tm w){fn:Func}{ys:List LV}(h:rk P s fn.results.toList=some ys):
  ∃v,(results fn tm).run P w= .ok v w∧LVR G w L s.lam.length (dS ys) v∧ ∀b,aD (dS ys) v b→ ∃t,aD (s.fr t) (tm.getD t undef) b:=by
 obtain⟨vs,h1,h2,h3⟩:=wG R h
 have hm:(fn.results.mapM (uA tm)).run P w= .ok vs.toArray w:=by
  rw[Array.mapM_eq_mapM_toList,Sem.run_map,h1]
  rfl
 have hrun:(results fn tm).run P w= .ok (if h:vs.toArray.size=1 then vs.toArray[0]else .tuple vs.toArray) w:=by
  unfold results
  rw[Sem.run_bind]
  have e: ∀x:Sem (Array Value),x.run P w= .ok vs.toArray w→(x.run P w).andThen (fun a w'=>Sem.run P (pure (if h:a.size=1 then a[0]else Value.tuple a)) w')=
    .ok (if h:vs.toArray.size=1 then vs.toArray[0]else .tuple vs.toArray) w:=fun x hx=>by rw[hx];rfl
  exact e _ hm
 refine⟨_,hrun,?_⟩
 by_cases hl:ys.length=1
 ·cases ys with
  |nil=>simp at hl
  |cons y r=>
   cases r with
   |cons=>simp at hl
   |nil=>
    cases vs with
    |nil=>simp at h2
    |cons v r=>
     cases r with
     |cons=>simp at h2
     |nil=>simpa[dS]using h3 0 y rfl
 ·have e:dS ys= .ltup (ys.map Go.Abs.strip1):=by
   cases ys with
   |nil=>rfl
   |cons t r=>
    cases r with
    |nil=>simp at hl
    |cons u r=>rfl
  rw[e,dif_neg (by simpa[h2]using hl)]
  refine⟨?_,fun b hb=>by simp[aD]at hb⟩
  simp only[LVR]
  refine⟨_,rfl,?_⟩
  simp only
  clear e hl hrun hm h1 h
  induction ys generalizing vs with
  |nil=>cases vs<;>simp_all [bH]
  |cons y r ih=>
   cases vs with
   |nil=>simp at h2
   |cons v vs=>
    have h0:=h3 0 y rfl
    simp only[List.getD_cons_zero]at h0
    simp only[List.map_cons,bH]
    refine⟨v,vs,rfl,(gF h0.1).2,(gF h0.1).1,ih vs (by simpa using h2) fun j z hz=> ?_⟩
    simpa using h3 (j+1) z (by simpa using hz)
theorem Rel.leave {G0:Gh}{w0:World}{T:Nat→Prop}(R:Rel G L s μ tm w)(E:Ext L T G0 w0 G w (ax G w s μ tm))(h0:G0.n L=0)(hgt: ∀l,L<l→G0.n l=0){vs:List LV}{tmr:Array Value}
  (hv: ∀j x,vs[j]? =some x→LVR (G.cut L) w L 0 x (tmr.getD j undef)) (ho: ∀j x b,vs[j]? =some x→aD x (tmr.getD j undef) b→(∃t,aD (s.fr t) (tm.getD t undef) b)∧j=0):
  Rel (G0.withO G.O) L (aM vs) μ tmr w∧Ext L T G0 w0 (G0.withO G.O) w (ax (G0.withO G.O) w (aM vs) μ tmr)∧Le (G.cut L) w (G0.withO G.O) w:=by
 have hμ:=R.lev
 have hleC:Le (G.cut L) w (G0.withO G.O) w:=by
  refine⟨fun _ _ _ h hb=>⟨h,hb⟩,fun lev i h=> ?_,fun _ _ _ h hc=>⟨h,hc⟩,fun b cur e fz h=>⟨cur,fz,h,rfl⟩⟩
  simp only[Gh.cut]at h
  split at h
  ·rename_i hl
   obtain⟨h1,h2⟩:=E.lev lev hl
   simp only[Gh.withO,Gh.cut]
   exact⟨by rw[←h2];exact h,(h1 i).1.symm,(h1 i).2.symm⟩
  ·omega
 have hβ: ∀lev i,lev<L→(G0.withO G.O).β lev i=G.β lev i∧(G0.withO G.O).sz lev i=G.sz lev i:=fun lev i hl=>⟨((E.lev lev hl).1 i).1.symm,((E.lev lev hl).1 i).2.symm⟩
 have hlive: ∀lev i,aJ (aC (μ++[(aM vs).lam]) lev i)→lev<L∧aJ (aC (μ++[s.lam]) lev i):=by
  intro lev i h
  obtain⟨h1,h2⟩:=jD h
  refine⟨by omega,?_⟩
  have h3:aC (μ++[s.lam]) lev i=aZ μ lev i:=bp h1
  rw[h3,←h2];exact h
 have hown: ∀q b,av (G0.withO G.O) w (aM vs).fr tmr (μ++[(aM vs).lam]) q b→(∃t,q= .fr 0∧av G w s.fr tm (μ++[s.lam]) (.fr t) b)∨(∃lev i k,q= .ob lev i k∧av G w s.fr tm (μ++[s.lam]) q b):=by
  intro q b h
  cases q with
  |fr t=>
   simp only[av,bY]at h
   cases hx:vs[t]? with
   |none=>rw[hx]at h;simp[aD]at h
   |some x=>
    rw[hx]at h
    obtain⟨⟨u,hu⟩,rfl⟩:=ho t x b hx h
    exact .inl ⟨u,rfl,hu⟩
  |ob lev i k=>
   have hl:=eW h
   obtain⟨h1,h2⟩:=jD hl
   refine .inr ⟨lev,i,k,rfl,gx (fr':=(aM vs).fr) (tm':=tmr) ?_ (hβ lev i (by omega)).1 rfl h⟩
   rw[show aC (μ++[(aM vs).lam]) lev i=aZ μ lev i from h2]
   exact(bp h1).symm
 refine⟨⟨hμ,fun t=> ?_,fun i=> ?_,fun lev i hl=> ?_,fun lev i lev' i' h h' e=> ?_,fun q q' b h h'=> ?_,fun q b lev i h h' e=> ?_,fun lev hl=> ?_,?_,hgt⟩,⟨⟨E.le.map,fun lev i h=>⟨h,rfl,rfl⟩,E.le.imm,E.le.blk⟩,E.os,E.tape,E.output,E.size,E.keep,fun b hb=>E.grow b ?_,fun l hl=>⟨fun _=>⟨rfl,rfl⟩,rfl⟩⟩,hleC⟩
 ·rw[bY]
  cases hx:vs[t]? with
  |none=>simp[LVR,VR]
  |some x=>
   have h1:=hv t x hx
   refine sb x _ (cQ (L:=L) (nl:=0) hleC (Nat.le_refl _) (fun i hi=>by omega) x _ (fun b _=>⟨rfl,rfl⟩) h1)
 ·have:aF (aM vs).lam i= .dead:=by simp[aM,aF]
  rw[this];trivial
 ·rw[(hβ lev i hl).1,(hβ lev i hl).2]
  refine cI (G:=G.below lev) (G':=(G0.withO G.O).below lev) (w':=w) ⟨fun _ _ _ h hb=>⟨h,hb⟩,fun l j hj=> ?_,fun _ _ _ h hc=>⟨h,hc⟩,fun b cur e fz h=>⟨cur,fz,h,rfl⟩⟩ (Nat.le_refl _) (fun _ h=>by omega) (fun _=>⟨rfl,rfl⟩) (fun _ _ _ _ _ _ _ _ _ _ _=>⟨rfl,rfl⟩) (R.mu lev i hl)
  simp only[Gh.below,Gh.withO]at hj ⊢
  split at hj
  ·rename_i hll
   obtain⟨h1,h2⟩:=E.lev l (by omega)
   rw[if_pos hll]
   exact⟨by rw[←h2];exact hj,(h1 j).1.symm,(h1 j).2.symm⟩
  ·omega
 ·have h1:=hlive lev i h
  have h2:=hlive lev' i' h'
  rw[(hβ lev i h1.1).1,(hβ lev' i' h2.1).1]at e
  exact R.inj lev i lev' i' h1.2 h2.2 e
 ·rcases hown q b h with⟨t,rfl,h1⟩|⟨lev,i,k,rfl,h1⟩<;>rcases hown q' b h' with⟨t',rfl,h1'⟩|⟨lev',i',k',rfl,h1'⟩
  ·rfl
  ·have:=R.own _ _ b h1 h1';cases this
  ·have:=R.own _ _ b h1 h1';cases this
  ·exact R.own _ _ b h1 h1'
 ·have h2:=hlive lev i h'
  rw[(hβ lev i h2.1).1]at e
  rcases hown q b h with⟨t,rfl,h1⟩|⟨lev',i',k',rfl,h1⟩
  ·exact R.apart _ b lev i h1 h2.2 e
  ·exact R.apart _ b lev i h1 h2.2 e
 ·have:=(E.lev lev hl).2
  rw[show (G0.withO G.O).n lev=G0.n lev from rfl,←this]
  exact R.nlt lev hl
 ·simp only[aM,Bool.false_eq_true,if_false]
  exact h0
 ·rcases hb with⟨q,hb⟩|⟨lev,i,hb,e⟩
  ·rcases hown q b hb with⟨t,rfl,h1⟩|⟨lev,i,k,rfl,h1⟩
   ·exact .inl ⟨_,h1⟩
   ·exact .inl ⟨_,h1⟩
  ·have h2:=hlive lev i hb
   exact .inr ⟨lev,i,h2.2,by rw[←(hβ lev i h2.1).1];exact e⟩
theorem BV (h0:G.n L=0)(hgt: ∀l,L<l→G.n l=0):Le G w (G.cut L) w:=by
 refine⟨fun _ _ _ h hb=>⟨h,hb⟩,fun lev i h=>⟨?_,rfl,rfl⟩,fun _ _ _ h hc=>⟨h,hc⟩,fun b cur e fz h=>⟨cur,fz,h,rfl⟩⟩
 have hl:lev<L:=by
  rcases Nat.lt_trichotomy lev L with h1|h1|h1
  ·exact h1
  ·subst h1;omega
  ·have:=hgt lev h1;omega
 simp only[Gh.cut,if_pos hl]
 exact h
theorem oX: ∀{l:List LV},eN l=true→ ∀x∈l,gy x=true
 |[],_,x,h=>by simp at h
 |y::r,hp,x,h=>by
  simp only[eN]at hp
  split at hp<;>try(simp at hp;done)
  rcases List.mem_cons.1 h with rfl|h
  ·assumption
  ·exact oX hp x h
theorem IM {nl:Nat}{x:LV}{v:Value}(hf:m8 x=true)(hr:LVR G w L nl x v)(hb:(G.n L=0∧ ∀l,L<l→G.n l=0)∨eU L x=true):LVR (G.cut L) w L 0 x v:=by
 have one: ∀{x:LV} {v:Value},gy x=true→LVR G w L nl x v→((G.n L=0∧ ∀l,L<l→G.n l=0)∨kf L x=true)→LVR (G.cut L) w L 0 x v:=by
  intro x v hp hr hb
  cases x<;>simp only[gy,Bool.false_eq_true]at hp<;>simp only[LVR]at hr ⊢
  ·rcases hb with⟨h0,hgt⟩|hb
   ·exact bc (BV h0 hgt) _ _ hr
   ·exact dz _ _ hb hr
  ·rcases hb with⟨h0,hgt⟩|hb
   ·exact iO (BV h0 hgt) (fun _ _ _ _=>⟨rfl,rfl⟩) hr
   ·exact vM hb hr
 unfold m8 at hf
 split at hf
 ·exact one rfl hr (hb.imp id (fun h=>h))
 ·exact one rfl hr (hb.imp id (fun h=>h))
 ·rename_i xs
  simp only[LVR]at hr ⊢
  obtain⟨vs,e,hl⟩:=hr
  refine⟨vs,e,?_⟩
  have hb':(G.n L=0∧ ∀l,L<l→G.n l=0)∨ ∀x∈xs,kf L x=true:=hb.imp id fun h=>by simpa[eU]using h
  have hm:=oX hf
  clear hb hf e
  generalize vs.toList=l at hl
  induction xs generalizing l with
  |nil=>simpa[bH]using hl
  |cons x xs ih=>
   simp only[bH]at hl ⊢
   obtain⟨v,r,e,h1,h2,h3⟩:=hl
   exact⟨v,r,e,h1,one (hm x (by simp)) h2 (hb'.imp id fun h=>h x (by simp)),ih (hb'.imp id fun h y hy=>h y (List.mem_cons_of_mem _ hy)) (fun y hy=>hm y (List.mem_cons_of_mem _ hy)) r h3⟩
 ·simp at hf
theorem Rel.retm (R:Rel G L s μ tm w){tm':Array Value}(hf: ∀t,s.fr t= .cv .undef∨tm'.getD t undef=tm.getD t undef):
  Rel G L s μ tm' w∧ ∀q b,av G w s.fr tm' (μ++[s.lam]) q b↔av G w s.fr tm (μ++[s.lam]) q b:=by
 have hown: ∀q b,av G w s.fr tm' (μ++[s.lam]) q b↔av G w s.fr tm (μ++[s.lam]) q b:=by
  intro q b
  cases q with
  |fr t=>
   simp only[av]
   rcases hf t with h|h
   ·rw[h];simp[aD]
   ·rw[h]
  |ob lev i k=>exact Iff.rfl
 refine⟨⟨R.lev,fun t=> ?_,R.lam,R.mu,R.inj,fun l l' b h h'=>R.own l l' b ((hown l b).1 h) ((hown l' b).1 h'),fun l b lev i h h'=>R.apart l b lev i ((hown l b).1 h) h',R.nlt,R.nL,R.ngt⟩,hown⟩
 rcases hf t with h|h
 ·rw[h];simp[LVR,VR]
 ·rw[h];exact R.fr t
theorem p6 {fn:Func}{G0:Gh}{w0:World}{T:Nat→Prop}{out:Out}(hfk:ff P fn.results.toList s μ=some out)(R':Rel G L s μ tm w)(E':Ext L T G0 w0 G w (ax G w s μ tm))
  (h0:G0.n L=0) (hgt: ∀l,L<l→G0.n l=0): ∃v,(results fn tm).run P w= .ok v w∧ey L T G0 w0 out (.returned v) w:=by
 unfold ff at hfk
 obtain⟨ys,hys,hfk⟩:=ab.1 hfk
 dsimp only at hfk
 obtain⟨hfl,hfk⟩:=aI.1 hfk
 obtain⟨v,hv1,hr1,hr2⟩:=BK R' hys
 have hout:out= .ret (dS ys) μ∧((G.n L=0∧ ∀l,L<l→G.n l=0)∨eU L (dS ys)=true):=by
  split at hfk
  ·rename_i hp
   simp only[Option.some.injEq]at hfk
   refine⟨hfk.symm,.inl ⟨?_,R'.ngt⟩⟩
   have:=R'.nL
   rw[hp]at this
   simpa using this
  ·obtain⟨hbl,hfk⟩:=aI.1 hfk
   simp only[Option.some.injEq]at hfk
   rw[R'.lev]at hbl
   exact⟨hfk.symm,.inr hbl⟩
 obtain⟨rfl,hbel⟩:=hout
 refine⟨v,hv1,?_⟩
 obtain ⟨R3, E3, _⟩ := R'.leave (vs := [dS ys]) (tmr := #[v]) E' h0 hgt (fun j x hx => by
  cases j with
  |zero=>simp only[List.getElem?_cons_zero,Option.some.injEq]at hx;subst hx;exact IM hfl hr1 hbel
  |succ j=>simp at hx) (fun j x b hx hob=>by
  cases j with
  |zero=>simp only[List.getElem?_cons_zero,Option.some.injEq]at hx;subst hx;exact⟨hr2 b hob,rfl⟩
  |succ j=>simp at hx)
 exact⟨_,R3,E3⟩
theorem Am (hm:P.follows .mixedOrders=true)(hrho:dP P W0 ρ)(hloop:jo P W0 ρ)(hseg:lp P W0 ρ){H:Hints}{f:FuncId}{fn:Func}{c:Code}{args:List LV}{out:Out}(hf:P.funcs[f]? =some fn)(hb:fn.body=some c)
  (h:xa P ρ H fn c args μ=some out):ck P W0 f args μ out:=by
 unfold xa at h
 obtain⟨hg,h⟩:=aI.1 h
 simp only[Bool.and_eq_true,Bool.not_eq_true']at hg
 obtain⟨⟨hg1,hg2⟩,hg3⟩:=hg
 have hg1:=Nat.le_of_ble_eq_true hg1
 refine⟨⟨fn,c,hf,hb,hg3⟩,fun G w cargs hsz R hkn=> ?_⟩
 refine calls_of_wp hf hb ?_
 have hsize:(cargs++Array.replicate (fn.ntmps-cargs.size) undef).size=fn.ntmps:=by simp;omega
 obtain⟨R1,hO⟩:=R.retm (tm':=cargs++Array.replicate (fn.ntmps-cargs.size) undef) fun t=>by
  by_cases ht:t<cargs.size
  ·right
   simp[Array.getD_eq_getD_getElem?,Array.getElem?_append_left ht]
  ·left
   rw[bY,List.getElem?_eq_none (by omega)]
   rfl
 have h0:G.n μ.length=0:=by simpa[aM]using R.nL
 refine cV hm hrho hloop hseg (L:=μ.length) (T:=ax G w (aM args) μ cargs) (G0:=G) (w0:=w) (n:=fn.ntmps) (ds:=⟨[],none⟩) c hg2 hkn h ⟨R1,Ext.refl G w fun b hb=> ?_,hsize,⟨rfl,fun _ _ e=>by cases e⟩,h0⟩ ?_
 ·rcases hb with⟨q,hb⟩|hb
  ·exact .inl ⟨q,(hO q b).1 hb⟩
  ·exact .inr hb
 ·have fin: ∀(s':S) (μ':Mu) (a':Act) (w':World) (G':Gh),ff P fn.results.toList s' μ'=some out→f9 μ.length (ax G w (aM args) μ cargs) G w fn.ntmps ⟨[],none⟩ s' μ' a' w' G'→
    a'.defers=[]∧ ∃v,(results fn a'.tmps).run P w'= .ok v w'∧ey μ.length (ax G w (aM args) μ cargs) G w out (.returned v) w':=by
   intro s' μ' a' w' G' hfk hs
   obtain⟨R',E',_,hds,_⟩:=hs
   obtain⟨v,h1,h2⟩:=p6 hfk R' E' h0 R.ngt
   exact⟨hds.1,v,h1,h2⟩
  intro st e a' w' hst hr
  cases st with
  |norm s' μ'=>
   cases e<;>simp only[StR]at hr
   obtain⟨G',hs⟩:=hr
   exact fin s' μ' a' w' G' hst hs
  |ret s' μ'=>
   cases e<;>simp only[StR]at hr
   obtain⟨G',hs⟩:=hr
   exact fin s' μ' a' w' G' hst hs
  |exit i s' μ'=>simp at hst
  |panic v s' μ'=>
   cases e<;>simp only[StR]at hr
   obtain⟨G',pv,rfl,hv,R',E',_,hds,_⟩:=hr
   obtain⟨hbl,hst⟩:=aI.1 hst
   simp only[Option.some.injEq]at hst
   subst hst
   rw[R'.lev]at hbl
   refine⟨hds.1,?_⟩
   obtain⟨R3,E3,hle⟩:=R'.leave (vs:=[]) (tmr:= #[]) E' h0 R.ngt (fun j x hx=>by simp at hx) (fun j x b hx=>by simp at hx)
   exact⟨_,pv,rfl,bc hle _ _ (dz _ _ hbl hv),R3,E3⟩
end
end Go.Abs
set_option linter.unusedVariables false
set_option linter.unusedSimpArgs false
namespace Go.Abs
open Go
section
variable {P:Program}{W0:World}{ρ:Rho}{L:Nat}{G G':Gh}{w w':World}{s:S}{μ μ':Mu}{tm:Array Value}
def xn (N:Act→World→Prop)(Q:Exit→Act→World→Prop):Exit→Act→World→Prop
  | .normal,a,w=>N a w
  |e,a,w=>Q e a w
theorem qN {ops:Array Oper}{Q:Exit→Act→World→Prop}{l2:List Nat}: ∀{l1:List Nat} {a:Act} {w:World},wpOps P ops (xn (wpOps P ops Q l2) Q) l1 a w→wpOps P ops Q (l1++l2) a w
  |[],a,w,h=>h
  |i::l1,a,w,h=>by
    rw[List.cons_append,wpOps_cons]
    rw[wpOps_cons]at h
    have h:=wpOp_mono (fun a w=>qN (l1:=l1)) h
    unfold wpOp at h ⊢
    split at h
    · exact h
    · split at h
      · rename_i hw
        rw[if_pos hw]
        rcases h with h|⟨h1,a',w',h2⟩
        · left
          unfold Oper.wp at h ⊢
          generalize(execOp a.eval _).run P w=r at*
          cases r with
          |ok n w'=>
            cases n<;>simp only[Oper.upon]at h ⊢ <;>first
              |exact h
              | (refine Go.Calls.mono h fun e w'' he => ?_
                 cases e with
                 |returned v=>exact he
                 |panicked ch=>exact he
                 |outgrown=>obtain⟨a',w',h2⟩:=he;exact⟨a',w',h2⟩)
          |halt x w'=>cases x<;>simp only[Oper.upon]at h ⊢ <;>exact h
        · exact .inr ⟨h1,a',w',h2⟩
      · rename_i hw
        rw[if_neg hw]
        exact h
theorem fA {ops:Array Oper}{Q:Exit→Act→World→Prop}{Q':Exit→Act→List Frame→World→Prop}{cs:List Frame}(hQ: ¬LetsOut Q)(hq: ∀e a w,Q e a w→Q' e a cs w): ∀{l:List Nat} {a:Act} {w:World},wpOps P ops Q l a w→wpOpsS P ops Q' l a cs w
  |[],a,w,h=>hq _ _ _ h
  |i::l,a,w,h=>by
    simp only[wpOps]at h
    simp only[wpOpsS]
    cases ho:ops[i]? with
    |none=>rw[ho]at h;exact fA hQ hq h
    |some o=>
      rw[ho]at h
      simp only at h ⊢
      split at h
      · rename_i hw
        rw[if_pos hw]
        rcases h with h|⟨_,h⟩
        rotate_left
        · exact absurd h hQ
        unfold Oper.wp at h
        generalize(execOp a.eval o).run P w=r at*
        cases r with
        |ok n w'=>
          cases n with
          |value v=>exact fA hQ hq h
          |skip=>exact fA hQ hq h
          |defer d=>exact fA hQ hq h
          |enter f args=>
            refine Go.Calls.mono h fun e w'' he=> ?_
            cases e with
            |returned v=>exact fA hQ hq he
            |panicked ch=>exact hq _ _ _ he
            |outgrown=>exact absurd he hQ
          |row row args=>exact Rows.mono h fun v w'' he=>fA hQ hq he
          |_=>exact h.elim
        |halt x w'=>
          cases x with
          |panic v=>exact hq _ _ _ h
          |_=>exact h.elim
      · rename_i hw
        rw[if_neg hw]
        exact fA hQ hq h
theorem J5 {c:Code}{Q Q':Exit→Act→List Frame→World→Prop}{a:Act}{cs:List Frame}{w:World}(hq: ∀e a cs w,Q e a cs w→Q' e a cs w)(h:c.wpS P Q a cs w):c.wpS P Q' a cs w:=
  fun b k hb hr=>let⟨e,a',cs',w',q,r⟩:=h b k hb hr;⟨e,a',cs',w',hq _ _ _ _ q,r⟩
def nf (pv:Option CV)(cpv:Value):FrameMode:=match pv with|some _=> .panicking [{v:=cpv,recovered:=false}]|none=> .returning
def d6 (pv:Option CV)(cpv:Value):FrameMode:=match pv with|some _=> .panicking [{v:=cpv,recovered:=true}]|none=> .returning
theorem wX {pv:Option CV}{cpv:Value}:settle (d6 pv cpv)= .returning:=by
  cases pv<;>simp[d6,settle]
def FM (P:Program)(W0:World)(f:FuncId)(pv:Option CV)(args:List LV)(μ μ':Mu):Prop:=
  (∃fn c,P.funcs[f]? =some fn∧fn.body=some c∧(fn.name == "runtime.NumGoroutine")=false)∧
  ∀(G:Gh) (w:World) (cargs:Array Value) (cpv:Value),cargs.size=args.length→Rel G μ.length (aM args) μ cargs w→(∀v,pv=some v→VR G w v cpv)→Kn W0 w (ax G w (aM args) μ cargs)→
    CallsD P f cargs (nf pv cpv) w fun e u' w'=> ∃v,e= .returned v∧u'=d6 pv cpv∧
      ∃O',Rel (G.withO O') μ.length (aM []) μ' #[] w'∧Ext μ.length (ax G w (aM args) μ cargs) G w (G.withO O') w' (ax (G.withO O') w' (aM []) μ' #[])
def r6 (P:Program)(W0:World)(ρ:Rho):Prop:= ∀f pv args μ μ',ρ.dcall f pv args μ=some μ'→FM P W0 f pv args μ μ'
theorem vn {o:Oper}(h:qa o=true):o.guard=none∧ ∃c,o.op= .call c∧c.callee= .builtin .recover:=by
  unfold qa at h
  split at h<;>try(cases h;done)
  rename_i c hg ho
  split at h<;>try(cases h;done)
  rename_i hc
  exact⟨hg,c,ho,hc⟩
theorem yx (hm:P.follows .mixedOrders=true)(hrho:dP P W0 ρ)(hloop:jo P W0 ρ)(hseg:lp P W0 ρ){H:Hints}{f:FuncId}{fn:Func}{c:Code}{pv:Option CV}{args:List LV}(hf:P.funcs[f]? =some fn)(hb:fn.body=some c)
    (h:m5 P ρ H fn c pv args μ=some μ'):FM P W0 f pv args μ μ':=by
  unfold m5 at h
  split at h<;>try(cases h;done)
  rename_i id ops draw b
  split at h<;>try(cases h;done)
  split at h<;>try(cases h;done)
  rename_i o ho
  obtain⟨hg,h⟩:=aI.1 h
  simp only[Bool.and_eq_true,Bool.not_eq_true']at hg
  obtain⟨⟨⟨⟨⟨hg1,hg2⟩,hg3⟩,hg4⟩,hg5⟩,hg6⟩:=hg
  have hg1:=Nat.le_of_ble_eq_true hg1
  refine⟨⟨fn,_,hf,hb,hg4⟩,fun G w cargs cpv hsz R hpv hkn=> ?_⟩
  obtain⟨hgu,cc,hop,hcal⟩:=vn hg5
  have hsize:(cargs++Array.replicate (fn.ntmps-cargs.size) undef).size=fn.ntmps:=by simp;omega
  obtain⟨R1,hO⟩:=R.retm (tm':=cargs++Array.replicate (fn.ntmps-cargs.size) undef) fun t=>by
    by_cases ht:t<cargs.size
    · right
      simp[Array.getD_eq_getD_getElem?,Array.getElem?_append_left ht]
    · left
      rw[bY,List.getElem?_eq_none (by omega)]
      rfl
  have h0:G.n μ.length=0:=by simpa[aM]using R.nL
  have E1:Ext μ.length (ax G w (aM args) μ cargs) G w G w (ax G w (aM args) μ (cargs++Array.replicate (fn.ntmps-cargs.size) undef)):=Ext.refl G w fun b hb=>by
    rcases hb with⟨q,hb⟩|hb
    · exact .inl ⟨q,(hO q b).1 hb⟩
    · exact .inr hb
  refine callsD_of_wpS hf hb fun c₀ cs hc₀=> ?_
  let A:Act:={tmps:=cargs++Array.replicate (fn.ntmps-cargs.size) undef,defers:=[]}
  let rv:Value:=match pv with|some _=>cpv|none=> .nilIface
  let c1:Frame:={c₀ with mode:=d6 pv cpv}
  have hds: ∀(i:Nat) (o:Oper),ops[i]? =some o→ ∀d,o.dst=some d→d<fn.ntmps∧(Keep.mk [] none).lets d:=fun i o ho d hd=>jg (ds:=⟨[],none⟩) hg2 (by simpa using ho) d hd
  obtain ⟨R2, E2⟩ := cw (a := A) (dst := o.dst) (v := zM pv) (cv := rv) (w := w) R1 E1 (by
    cases pv with
    |none=>simp[zM,rv,LVR,VR]
    |some v=>simpa[zM,rv,LVR]using hpv v rfl) (fun b hb=>by cases pv<;>simp[zM,aD]at hb) (fun d hd=>by rw[show A.tmps=_ from rfl,hsize];exact(hds 0 o ho d hd).1)
  have hpos:0<ops.size:=(Array.getElem?_eq_some_iff.1 ho).1
  have hrange:List.range ops.size=0::List.range' 1 (ops.size-1):=by
    rw[List.range_eq_range']
    conv=>lhs;rw[show ops.size=(ops.size-1)+1 by omega]
    rw[List.range'_succ]
  let Q:Exit→Act→World→Prop:=fun e a w'=>match e with
    | .normal| .ret=>a.defers=[]∧(∃v,(results fn a.tmps).run P w'= .ok v w')∧ ∃O',Rel (G.withO O') μ.length (aM []) μ' #[] w'∧Ext μ.length (ax G w (aM args) μ cargs) G w (G.withO O') w' (ax (G.withO O') w' (aM []) μ' #[])
    |_=>False
  have hlets: ∀N,¬LetsOut (xn N Q):=fun N ⟨a,w,h⟩=>h
  have fin: ∀(s':S) (a':Act) (w':World) (G':Gh),f9 μ.length (ax G w (aM args) μ cargs) G w fn.ntmps ⟨[],none⟩ s' μ' a' w' G'→
      a'.defers=[]∧(∃v,(results fn a'.tmps).run P w'= .ok v w')∧ ∃O',Rel (G.withO O') μ.length (aM []) μ' #[] w'∧Ext μ.length (ax G w (aM args) μ cargs) G w (G.withO O') w' (ax (G.withO O') w' (aM []) μ' #[]):=by
    intro s' a' w' G' hs
    obtain⟨R',E',_,hd,_⟩:=hs
    refine⟨hd.1,?_,?_⟩
    · have he:fn.results= #[]:=by simpa using hg6
      exact⟨.tuple #[],by simp[results,he]⟩
    · obtain⟨R3,E3,_⟩:=R'.leave (vs:=[]) (tmr:= #[]) E' h0 R.ngt (fun j x hx=>by simp at hx) (fun j x b hx=>by simp at hx)
      exact⟨_,R3,E3⟩
  have hbw: ∀(s':S) (μ1:Mu) (a':Act) (w':World) (G':Gh),(bA P ρ H b s' μ1 fun st=>match st with| .norm s μ=>some μ| .ret s μ=>some μ|_=>none)=some μ'→f9 μ.length (ax G w (aM args) μ cargs) G w fn.ntmps ⟨[],none⟩ s' μ1 a' w' G'→b.wp P Q a' w':=by
    intro s' μ1 a' w' G' hx hs
    refine cV hm hrho hloop hseg (L:=μ.length) (G0:=G) (w0:=w) (n:=fn.ntmps) (ds:=⟨[],none⟩) b hg3 hkn hx hs fun st e a2 w2 hst hr=> ?_
    cases st with
    |norm s2 μ2=>
      simp only[Option.some.injEq]at hst
      subst hst
      cases e<;>simp only[StR]at hr
      obtain⟨G2,hs2⟩:=hr
      exact fin s2 a2 w2 G2 hs2
    |ret s2 μ2=>
      simp only[Option.some.injEq]at hst
      subst hst
      cases e<;>simp only[StR]at hr
      obtain⟨G2,hs2⟩:=hr
      exact fin s2 a2 w2 G2 hs2
    |exit i s2 μ2=>simp at hst
    |panic v s2 μ2=>simp at hst
  have hops:wpOps P ops (xn (b.wp P Q) Q) (List.range' 1 (ops.size-1)) (A.put o.dst rv) w:=by
    refine fK (L:=μ.length) (G0:=G) (w0:=w) (T:=ax G w (aM args) μ cargs) (n:=fn.ntmps) (ds:=⟨[],none⟩) (r:=μ') hrho hds hkn ?_ ?_ _ h R2 E2 (by rw[(iv A o.dst rv).1];exact hsize) (Keep.put ⟨rfl,fun _ _ e=>by cases e⟩ fun d hd=>(hds 0 o ho d hd).2)
    · intro s1 μ1 a1 w1 G1 hx R' E' hn' hd'
      exact hbw s1 μ1 a1 w1 G1 hx ⟨R',E',hn',hd',h0⟩
    · intro v s1 μ1 pv1 a1 w1 G1 hx
      cases hx
  refine wpS_seq (wpS_region ?_)
  rw[hrange]
  simp only[wpOpsS,ho]
  have hw:Region.wanted o (yielded ops A.tmps)=true:=by simp[Region.wanted,hgu]
  rw[if_pos hw]
  have hrun:(execOp A.eval o).run P w= .ok .recover w:=by
    simp[execOp,hop,resolve,hcal,invoke,builtin]
  have hrec:recoverD (c₀::cs)=(match pv with|some _=>some (cpv,c1::cs)|none=>none):=by
    cases pv with
    |none=>simp[recoverD,hc₀,nf]
    |some v=>simp[recoverD,hc₀,nf,c1,d6]
  rw[hrun]
  simp only
  have key : wpOpsS P ops (Exit.thenS (b.wpS P (bodyPostS P fn c₀ cs fun e u' w' => ∃ v, e = .returned v ∧ u' = d6 pv cpv ∧
      ∃O',Rel (G.withO O') μ.length (aM []) μ' #[] w'∧Ext μ.length (ax G w (aM args) μ cargs) G w (G.withO O') w' (ax (G.withO O') w' (aM []) μ' #[])))
      (bodyPostS P fn c₀ cs fun e u' w' => ∃ v, e = .returned v ∧ u' = d6 pv cpv ∧
      ∃O',Rel (G.withO O') μ.length (aM []) μ' #[] w'∧Ext μ.length (ax G w (aM args) μ cargs) G w (G.withO O') w' (ax (G.withO O') w' (aM []) μ' #[])))
      (List.range' 1 (ops.size-1)) (A.put o.dst rv) (c1::cs) w:=by
    refine fA (hlets _) ?_ hops
    intro e a1 w1 hq
    cases e with
    |normal=>
      simp only[Exit.thenS]
      refine J5 ?_ (wpS_of_wp (cs:=c1::cs) (Q:=fun e a cs' w=>cs'=c1::cs∧Q e a w) (Code.wp_mono (fun e a w h=>⟨rfl,h⟩) hq))
      rintro e a2 cs2 w2 ⟨rfl,hq2⟩
      cases e with
      |normal=>obtain⟨h1,⟨v,h2⟩,h3⟩:=hq2;exact⟨h1,_,rfl,v,h2,v,rfl,rfl,h3⟩
      |ret=>obtain⟨h1,⟨v,h2⟩,h3⟩:=hq2;exact⟨h1,_,rfl,v,h2,v,rfl,rfl,h3⟩
      |_=>exact hq2.elim
    |ret=>obtain⟨h1,⟨v,h2⟩,h3⟩:=hq;exact⟨h1,_,rfl,v,h2,v,rfl,rfl,h3⟩
    |_=>exact hq.elim
  cases pv with
  |none=>
    rw[hrec]
    have e1:c1=c₀:=by
      simp only[c1,d6]
      rw[show FrameMode.returning=c₀.mode from hc₀.symm]
    rw[e1]at key
    exact key
  |some v=>
    rw[hrec]
    exact key
theorem yP {t:Nat}{o:Oper}(h:vm t o=true):o.guard=none∧o.dst=none∧ ∃c,o.op= .defer c∧c.callee= .value (.tmp t)∧c.args= #[]:=by
  unfold vm at h
  split at h<;>try(cases h;done)
  rename_i c hg hd ho
  split at h<;>try(cases h;done)
  rename_i u hc
  split at h<;>try(cases h;done)
  rename_i ha
  have:=Nat.eq_of_beq_eq_true h
  subst this
  exact⟨hg,hd,c,ho,hc,by simpa using ha⟩
theorem vd {T:Nat→Prop}{G0:Gh}{w0:World}(hd:r6 P W0 ρ){t:Nat}{pv:Option CV}{α:Type}{k:S→Mu→Option α}{r:α}(h:iU ρ t pv s μ k=some r)(R:Rel G L s μ tm w)(E0:Ext L T G0 w0 G w (ax G w s μ tm))
    (hkn:Kn W0 w0 T) {cpv:Value} (hpv: ∀v,pv=some v→VR G w v cpv):
    ∃f vs,tm.getD t undef= .func (.func f) #[] vs∧(∃fn c,P.funcs[f]? =some fn∧fn.body=some c∧(fn.name == "runtime.NumGoroutine")=false)∧
      CallsD P f vs (nf pv cpv) w fun e u' w'=> ∃v,e= .returned v∧u'=d6 pv cpv∧ ∃s' μ' G',k s' μ'=some r∧Rel G' L s' μ' tm w'∧Ext L T G0 w0 G' w' (ax G' w' s' μ' tm):=by
  unfold iU at h
  split at h<;>try(cases h;done)
  rename_i f caps hfr
  obtain⟨args',ha,h⟩:=ab.1 h
  obtain⟨l,hlm,h⟩:=ab.1 h
  obtain⟨μ2,hdc,h⟩:=ab.1 h
  obtain⟨q,hq,hk9⟩:=ab.1 h
  have hq':=oI hq
  clear hq h
  subst hq'
  have hv:=R.fr t
  rw[hfr]at hv
  simp only[LVR]at hv
  obtain⟨vs,hvs,hcaps⟩:=hv
  obtain⟨hfn,hM⟩:=hd _ _ _ _ _ hdc
  refine⟨f,vs,hvs,hfn,?_⟩
  have hμ:=R.lev
  rw[hμ]at ha hlm
  obtain⟨hcl,hcg⟩:=nA hcaps
  have A:ArgsR G w L s tm [] caps vs:=by
    refine⟨by simpa using hcl.symm,fun j x hx=> ?_,fun j x b hx hob=> ?_⟩
    · obtain⟨v,hv,hr,_⟩:=hcg j x hx
      have:vs.getD j undef=v:=by
        rw[Array.getElem?_toList]at hv
        simp[Array.getD_eq_getD_getElem?,hv]
      rw[this]
      exact hr
    · obtain⟨v,hv,hr,hne⟩:=hcg j x hx
      exact absurd hob (ln hne)
  obtain⟨Re,hown,hlive⟩:=R.enterP A ha hlm
  have hT: ∀b,ax (G.push L s.lam.length) w (aM args') (μ++[l]) vs b→ ∀t,¬aD (s.fr t) (tm.getD t undef) b:=by
    rintro b (⟨q,hb⟩|⟨lev,i,hb,rfl⟩) t ht
    · rcases hown q b hb with⟨j,x,rfl,hx,ho⟩|⟨lev,i,k,rfl,ho⟩
      · obtain⟨⟨u,hu,_⟩,_⟩:=A.own j x b hx ho
        simp at hu
      · have:=R.own (.fr t) _ b ht ho
        cases this
    · exact R.apart (.fr t) _ lev i ht (hlive lev i hb) rfl
  have hT0: ∀b,ax (G.push L s.lam.length) w (aM args') (μ++[l]) vs b→ax G w s μ tm b:=by
    rintro b (⟨q,hb⟩|⟨lev,i,hb,rfl⟩)
    · rcases hown q b hb with⟨j,x,rfl,hx,ho⟩|⟨lev,i,k,rfl,ho⟩
      · obtain⟨⟨u,hu,_⟩,_⟩:=A.own j x b hx ho
        simp at hu
      · exact .inl ⟨_,ho⟩
    · exact .inr ⟨lev,i,hlive lev i hb,rfl⟩
  have hnL: ∀i,i<G.n L→i<s.lam.length:=fun i hi=>by
    have:=R.nL
    split at this<;>omega
  have hcall:=hM (G.push L s.lam.length) w vs cpv (by rw[A.size,(fm ha).1]) (by rw[List.length_append,hμ];exact Re) (fun v e=>bc (jn hnL) v _ (hpv v e)) ((hkn.ext E0).mono hT0)
  rw[show (μ++[l]).length=L+1 by simp[hμ]]at hcall
  refine hcall.mono ?_
  rintro e u' w' ⟨v,rfl,rfl,O',Rc,E⟩
  refine⟨v,rfl,rfl,{s with lam:=q.2,pushed:=true},q.1,(G.push L s.lam.length).withO O',hk9,?_⟩
  obtain⟨R2,h2,h3⟩:=R.mergeP (O':=O') hT rfl Rc E
  have hin: ∀b,ax ((G.push L s.lam.length).withO O') w' (aM []) (q.1++[q.2]) #[] b→(ax G w s μ tm b∨w.heap.size≤b):=fun b hb=>(E.grow b hb).imp (hT0 b) id
  refine⟨R2,E0.trans ⟨(jn hnL).trans E.le,E.os,E.tape,E.output,E.size,fun b hb hn=>E.keep b hb fun hh=>hn (hT0 b hh),fun b hb=> ?_,fun lv hlv=> ?_⟩⟩
  · rcases hb with⟨q',hb⟩|⟨lev,i,hb,rfl⟩
    · rcases h2 q' b hb with⟨_,_,h4⟩|⟨_,h4⟩
      · exact .inl (.inl ⟨q',h4⟩)
      · exact hin b (.inl ⟨q',h4⟩)
    · exact hin _ (.inr ⟨lev,i,h3 lev i hb,rfl⟩)
  · refine⟨fun _=>⟨rfl,rfl⟩,?_⟩
    simp only[Gh.withO,Gh.push]
    rw[if_neg (by omega)]
theorem yb (hm:P.follows .mixedOrders=true)(hrho:dP P W0 ρ)(hloop:jo P W0 ρ)(hseg:lp P W0 ρ)(hdc:r6 P W0 ρ){H:Hints}{f:FuncId}{fn:Func}{c:Code}{t:Nat}{args:List LV}{out:Out}(hf:P.funcs[f]? =some fn)(hb:fn.body=some c)
    (h:m3 P ρ H fn c t args μ=some out):ck P W0 f args μ out:=by
  unfold m3 at h
  split at h<;>try(cases h;done)
  rename_i ca id ops draw cb
  split at h<;>try(cases h;done)
  split at h<;>try(cases h;done)
  rename_i o ho
  obtain⟨hg,h⟩:=aI.1 h
  simp only[Bool.and_eq_true,Bool.not_eq_true']at hg
  obtain⟨⟨⟨⟨⟨hg1,hg2⟩,hg3⟩,hg4⟩,hg5⟩,hg6⟩:=hg
  have hg1:=Nat.le_of_ble_eq_true hg1
  obtain⟨hgu,hdst,cc,hop,hcal,hargs⟩:=yP hg6
  refine⟨⟨fn,_,hf,hb,hg5⟩,fun G w cargs hsz R hkn=> ?_⟩
  refine calls_of_wp_defers hf hb ?_
  have hsize:(cargs++Array.replicate (fn.ntmps-cargs.size) undef).size=fn.ntmps:=by simp;omega
  obtain⟨R1,hO⟩:=R.retm (tm':=cargs++Array.replicate (fn.ntmps-cargs.size) undef) fun t=>by
    by_cases ht:t<cargs.size
    · right
      simp[Array.getD_eq_getD_getElem?,Array.getElem?_append_left ht]
    · left
      rw[bY,List.getElem?_eq_none (by omega)]
      rfl
  have h0:G.n μ.length=0:=by simpa[aM]using R.nL
  have E1:Ext μ.length (ax G w (aM args) μ cargs) G w G w (ax G w (aM args) μ (cargs++Array.replicate (fn.ntmps-cargs.size) undef)):=Ext.refl G w fun b hb=>by
    rcases hb with⟨q,hb⟩|hb
    · exact .inl ⟨q,(hO q b).1 hb⟩
    · exact .inr hb
  have hpos:0<ops.size:=by
    have:=(Array.getElem?_eq_some_iff.1 ho).1
    omega
  have hrange:List.range ops.size=List.range (ops.size-1)++[ops.size-1]:=by
    conv=>lhs;rw[show ops.size=(ops.size-1)+1 by omega]
    rw[List.range_succ]
  have fin: ∀(pv:Option CV) (cpv:Value) (s':S) (μ':Mu) (a':Act) (w':World) (G':Gh) (vs0:Value),iU ρ t pv s' μ' (fun s μ=>ff P fn.results.toList s μ)=some out→(∀v,pv=some v→VR G' w' v cpv)→
      ∀d:Deferred,(∀f vs,vs0= .func (.func f) #[] vs→d={target:= .fn (.func f) vs,args:= #[]})→f9 μ.length (ax G w (aM args) μ cargs) G w fn.ntmps ⟨[d],some (t,vs0)⟩ s' μ' a' w' G'→
      Leaves P fn a'.tmps (ey μ.length (ax G w (aM args) μ cargs) G w out) a'.defers (nf pv cpv) w':=by
    intro pv cpv s' μ' a' w' G' vs0 hdk hpv d hd hs
    obtain⟨R',E',_,⟨hk1,hk2⟩,_⟩:=hs
    obtain⟨f',vs,hval,⟨fn',c',hf',hb',hn'⟩,hcall⟩:=vd hdc hdk R' E' hkn hpv
    have hv0:=hk2 t vs0 rfl
    rw[hval]at hv0
    have hd:=hd f' vs hv0.symm
    subst hd
    rw[hk1]
    refine⟨by cases pv<;>simp[nf],.func f',vs,f',vs,rfl,?_,?_⟩
    · simp only[invoke,callFunc,Sem.run_bind,run_program,Result.andThen_ok,hf',hn',hb',Option.isNone_some,Bool.false_eq_true,if_false,Array.empty_append,Sem.run_pure]
    · refine hcall.mono ?_
      rintro e u' w2 ⟨v,rfl,rfl,s2,μ2,G2,hk,R2,E2⟩
      simp only
      rw[wX]
      simp only[Leaves]
      exact p6 hk R2 E2 h0 R.ngt
  have hbw: ∀(s':S) (μ1:Mu) (a':Act) (w':World) (G':Gh) (vs0:Value),bA P ρ H cb s' μ1 (vg P ρ t fn.results.toList)=some out→
      ∀d:Deferred,(∀f vs,vs0= .func (.func f) #[] vs→d={target:= .fn (.func f) vs,args:= #[]})→f9 μ.length (ax G w (aM args) μ cargs) G w fn.ntmps ⟨[d],some (t,vs0)⟩ s' μ1 a' w' G'→
      cb.wp P (bodyPostD P fn (ey μ.length (ax G w (aM args) μ cargs) G w out)) a' w':=by
    intro s' μ1 a' w' G' vs0 hx d hd hs
    refine cV hm hrho hloop hseg (L:=μ.length) (G0:=G) (w0:=w) (n:=fn.ntmps) (ds:=⟨[d],some (t,vs0)⟩) cb hg4 hkn hx hs fun st e a2 w2 hst hr=> ?_
    cases st with
    |norm s2 μ2=>
      cases e<;>simp only[StR]at hr
      obtain⟨G2,hs2⟩:=hr
      exact fin none undef s2 μ2 a2 w2 G2 vs0 hst (fun v hv=>by cases hv) d hd hs2
    |ret s2 μ2=>
      cases e<;>simp only[StR]at hr
      obtain⟨G2,hs2⟩:=hr
      exact fin none undef s2 μ2 a2 w2 G2 vs0 hst (fun v hv=>by cases hv) d hd hs2
    |exit i s2 μ2=>simp[vg]at hst
    |panic v s2 μ2=>
      cases e<;>simp only[StR]at hr
      obtain⟨G2,pv,rfl,hv,hs2⟩:=hr
      exact fin (some v) pv s2 μ2 a2 w2 G2 vs0 hst (fun v' hv'=>by injection hv' with hv';subst hv';exact hv) d hd hs2
  have hds: ∀(i:Nat) (o:Oper),ops[i]? =some o→ ∀d,o.dst=some d→d<fn.ntmps∧(Keep.mk [] none).lets d:=fun i o ho d hd=>jg (ds:=⟨[],none⟩) hg3 (by simpa using ho) d hd
  refine wp_seq (cV hm hrho hloop hseg (L:=μ.length) (T:=ax G w (aM args) μ cargs) (G0:=G) (w0:=w) (n:=fn.ntmps) (ds:=⟨[],none⟩) ca hg2 hkn h ⟨R1,E1,hsize,⟨rfl,fun _ _ e=>by cases e⟩,h0⟩ fun st e a1 w1 hst hr=> ?_)
  cases st with
  |norm s1 μ1=>
    cases e<;>simp only[StR]at hr
    obtain⟨G1,R2,E2,hn2,hk2,_⟩:=hr
    refine wp_seq (wp_region ?_)
    rw[hrange]
    refine qN ?_
    refine fK (L:=μ.length) (G0:=G) (w0:=w) (T:=ax G w (aM args) μ cargs) (n:=fn.ntmps) (ds:=⟨[],none⟩) (r:=out) hrho hds hkn ?_ ?_ _ hst R2 E2 hn2 hk2
    · intro s3 μ3 a3 w3 G3 hx R3 E3 hn3 hk3
      simp only[xn,wpOps,ho]
      have hw:Region.wanted o (yielded ops a3.tmps)=true:=by simp[Region.wanted,hgu]
      rw[if_pos hw]
      left
      have hval: ∃(dd:Deferred),(execOp a3.eval o).run P w3= .ok (.defer dd) w3∧ ∀f vs,a3.tmps.getD t undef= .func (.func f) #[] vs→dd={target:= .fn (.func f) vs,args:= #[]}:=by
        obtain⟨hic,_⟩:=aI.1 hx
        have hv:=R3.fr t
        revert hic hv
        generalize s3.fr t=q
        intro hic hv
        cases q<;>simp only[Km,Bool.false_eq_true]at hic
        rename_i f0 caps
        simp only[LVR]at hv
        obtain⟨vs,hvs,_⟩:=hv
        refine⟨{target:= .fn (.func f0) vs,args:= #[]},?_,fun f1 vs1 e=> ?_⟩
        · have:a3.eval (.tmp t)= .func (.func f0) #[] vs:=hvs
          simp[execOp,hop,resolve,hcal,hargs,this,Deferred.ofValue]
        · rw[hvs]at e
          injection e with e1 e2 e3
          injection e1 with e1
          rw[e1,e3]
      obtain⟨dd,hrun,hdd⟩:=hval
      unfold Oper.wp
      rw[hrun,Oper.upon_defer,hdst]
      simp only[Act.put,Exit.then]
      exact hbw s3 μ3 {a3 with defers:=dd::a3.defers} w3 G3 (a3.tmps.getD t undef) (aI.1 hx).2 dd hdd ⟨R3,E3,hn3,⟨by rw[hk3.1],fun t' v' e=>by injection e with e;injection e with e1 e2;subst e1;exact e2⟩,h0⟩
    · intro v s3 μ3 pv3 a3 w3 G3 hx
      cases hx
  |exit i s1 μ1=>simp at hst
  |ret s1 μ1=>simp at hst
  |panic v s1 μ1=>simp at hst
def qV (E:Env)(W0:World):Prop:= ∀f g,E.prim f=some g→ ∀args μ out,g args μ=some out→ck E.P W0 f args μ out
theorem wc {E:Env}(hm:E.P.follows .mixedOrders=true)(hp:qV E W0): ∀n,dP E.P W0 (evn E n)∧jo E.P W0 (evn E n)∧lp E.P W0 (evn E n)∧r6 E.P W0 (evn E n)
  |0=>⟨fun f args μ out h=>by simp[evn]at h,fun H lv c s μ st h=>by simp[evn]at h,fun H lv c s μ st h=>by simp[evn]at h,fun f pv args μ μ' h=>by simp[evn]at h⟩
  |n+1=>by
    obtain⟨h1,h2,h3,h4⟩:=wc hm hp n
    refine⟨fun f args μ out h=> ?_,fun H lv c s μ st h L G w a Q T G0 w0 k ds hc hkn hs hQ=>zN hm h1 h2 h3 h hc hkn hs hQ,fun H lv c s μ st h L G w a Q T G0 w0 k ds hc hkn hs hQ=>Ff hm h1 h2 h3 h hc hkn hs hQ,fun f pv args μ μ' h=> ?_⟩
    · simp only[evn,aG]at h
      split at h
      · rename_i g hg
        exact hp f g hg args μ out h
      · split at h<;>try(simp at h;done)
        rename_i fn hf
        split at h<;>try(simp at h;done)
        rename_i c hb
        split at h
        · exact Am hm h1 h2 h3 hf hb h
        · exact yb hm h1 h2 h3 h4 hf hb h
    · simp only[evn,fv]at h
      split at h<;>try(simp at h;done)
      rename_i fn hf
      split at h<;>try(simp at h;done)
      rename_i c hb
      exact yx hm h1 h2 h3 hf hb h
end
end Go.Abs
set_option linter.unusedVariables false
set_option linter.unusedSimpArgs false
namespace Go.Abs
open Go
def Lim {β:Type}(x:Nat→Option β)(y:Option β):Prop:= ∀r,y=some r→ ∃n,∀m,n≤m→x m=some r
section
variable {α β γ:Type}
theorem Lim.const (y:Option β):Lim (fun _=>y) y:=fun r h=>⟨0,fun _ _=>h⟩
theorem Lim.opt {x:Nat→Option α}{y:Option α}{k:Nat→α→Option β}{kω:α→Option β}(hx:Lim x y)(hk: ∀a,Lim (fun n=>k n a) (kω a)):Lim (fun n=>opt (x n) (k n)) (opt y kω):=by
 intro r h
 obtain⟨a,h1,h2⟩:=ab.1 h
 obtain⟨n,hn⟩:=hx a h1
 obtain⟨m,hm⟩:=hk a r h2
 exact⟨max n m,fun q hq=>ab.2 ⟨a,hn q (by omega),hm q (by omega)⟩⟩
theorem Lim.opt' {x:Option α}{k:Nat→α→Option β}{kω:α→Option β}(hk: ∀a,Lim (fun n=>k n a) (kω a)):Lim (fun n=>Abs.opt x (k n)) (Abs.opt x kω):=Lim.opt (.const x) hk
theorem Lim.guard {b:Bool}{k:Nat→Option β}{kω:Option β}(hk:Lim k kω):Lim (fun n=>ay b (k n)) (ay b kω):=by
 cases b
 ·exact .const _
 ·exact hk
theorem Lim.cond {b:Bool}{k l:Nat→Option β}{kω lω:Option β}(hk:Lim k kω)(hl:Lim l lω):Lim (fun n=>cond b (k n) (l n)) (cond b kω lω):=by
 cases b
 ·exact hl
 ·exact hk
theorem Lim.none:Lim (fun _=>(none:Option β)) none:= .const _
theorem Lim.callK {x:Nat→Option Out}{y:Option Out}{k:Nat→LV→Mu→Option β}{kω:LV→Mu→Option β}{p:Nat→CV→Mu→Option β}{pω:CV→Mu→Option β}(hx:Lim x y)
  (hk: ∀v μ,Lim (fun n=>k n v μ) (kω v μ)) (hp: ∀v μ,Lim (fun n=>p n v μ) (pω v μ)):Lim (fun n=>Abs.callK (x n) (k n) (p n)) (Abs.callK y kω pω):=by
 unfold Abs.callK
 refine Lim.opt hx fun a=> ?_
 cases a with
 |ret v μ=>exact hk v μ
 |panic v μ=>exact hp v μ
theorem wm {d:TypeDesc}{x:LV}{k:Nat→CV→Option β}{kω:CV→Option β}(hk: ∀c,Lim (fun n=>k n c) (kω c)):Lim (fun n=>ii d x (k n)) (ii d x kω):=by
 unfold ii
 cases d<;>exact Lim.opt' fun _=>hk _
theorem oy: ∀{ds:List TypeDesc} {cs:List CV} {k:Nat→List CV→Option β} {kω:List CV→Option β} (hk: ∀c,Lim (fun n=>k n c) (kω c)),Lim (fun n=>eE ds cs (k n)) (eE ds cs kω)
 |[],cs,k,kω,hk=>by unfold eE;exact Lim.opt' fun _=>hk _
 |d::ds,cs,k,kω,hk=>by
  unfold eE
  exact Lim.opt' fun _=>wm fun _=>oy fun _=>hk _
variable {P:Program}
theorem jc {t:TypeId}{x:LV}{k:Nat→CV→Option β}{kω:CV→Option β}(hk: ∀c,Lim (fun n=>k n c) (kω c)):Lim (fun n=>gD P t x (k n)) (gD P t x kω):=by
 unfold gD
 cases dM P t
 ·cases P.underlying t
  ·exact .none
  ·exact wm hk
 ·exact Lim.opt' fun _=>oy fun _=>hk _
theorem uf {own:Bool}{t:TypeId}{x:LV}{k:Nat→LV→Option β}{kω:LV→Option β}(hk: ∀c,Lim (fun n=>k n c) (kω c)):Lim (fun n=>ib P own t x (k n)) (ib P own t x kω):=by
 unfold ib
 cases own
 ·exact jc fun _=>hk _
 ·exact Lim.opt' fun _=>hk _
theorem qf: ∀{ts:List TypeId} {xs:List LV} {k:Nat→List LV→Option β} {kω:List LV→Option β} (hk: ∀c,Lim (fun n=>k n c) (kω c)),Lim (fun n=>dG P ts xs (k n)) (dG P ts xs kω)
 |[],xs,k,kω,hk=>by unfold dG;exact Lim.opt' fun _=>hk _
 |t::ts,xs,k,kω,hk=>by
  unfold dG
  exact Lim.opt' fun _=>uf fun _=>qf fun _=>hk _
theorem jb {own:Bool}{t:TypeId}{x:LV}{k:Nat→LV→Option β}{kω:LV→Option β}(hk: ∀c,Lim (fun n=>k n c) (kω c)):Lim (fun n=>cX P own t x (k n)) (cX P own t x kω):=by
 unfold cX
 split
 ·exact Lim.opt' fun _=>qf fun _=>hk _
 ·exact uf hk
theorem AF {b:Bool}{t:TypeId}{x:LV}{k:Nat→LV→Option β}{kω:LV→Option β}(hk: ∀c,Lim (fun n=>k n c) (kω c)):Lim (fun n=>iM P b t x (k n)) (iM P b t x kω):=by
 cases b with
 |true=>exact jb hk
 |false=>exact hk _
theorem Hi {h:OpHint}{t:TypeId}{a:LV}{s:S}{μ:Mu}{k:Nat→LV→S→Mu→Option β}{kω:LV→S→Mu→Option β}(hk: ∀v s μ,Lim (fun n=>k n v s μ) (kω v s μ)):Lim (fun n=>fH P h t a s μ (k n)) (fH P h t a s μ kω):=by
 unfold fH
 split
 ·split
  ·exact .none
  ·split
   ·exact Lim.opt' fun _=>AF fun _=>hk _ _ _
   ·exact Lim.opt' fun _=>hk _ _ _
 ·split
  ·exact Lim.opt' fun _=>Lim.opt' fun _=>hk _ _ _
  ·refine Lim.opt' fun _=> ?_
   split
   ·exact Lim.opt' fun _=>jb fun _=>hk _ _ _
   ·exact Lim.opt' fun _=>jb fun _=>hk _ _ _
 ·exact .none
theorem Ee {h:OpHint}{t:TypeId}{a v:LV}{s:S}{μ:Mu}{k:Nat→LV→S→Mu→Option β}{kω:LV→S→Mu→Option β}(hk: ∀v s μ,Lim (fun n=>k n v s μ) (kω v s μ)):Lim (fun n=>fV P h t a v s μ (k n)) (fV P h t a v s μ kω):=by
 unfold fV
 split
 ·split
  ·exact .none
  ·simp only[jR]
   exact Lim.opt' fun _=>hk _ _ _
 ·split
  ·exact .none
  ·exact Lim.opt' fun _=>Lim.guard (Lim.opt' fun _=>hk _ _ _)
 ·exact .none
theorem vo {h:OpHint}{t:TypeId}{a:LV}{f:Nat}{k:Nat→LV→Option β}{kω:LV→Option β}(hk: ∀c,Lim (fun n=>k n c) (kω c)):Lim (fun n=>dY P h t a f (k n)) (dY P h t a f kω):=by
 unfold dY
 refine Lim.opt' fun _=> ?_
 split
 ·exact hk _
 ·split
  ·exact Lim.opt' fun _=>oy fun _=>Lim.guard (hk _)
  ·exact Lim.opt' fun _=>hk _
 ·exact .none
theorem vp {h:OpHint}{t:TypeId}{a:LV}{i:Int}{k:Nat→LV→Option β}{kω:LV→Option β}(hk: ∀c,Lim (fun n=>k n c) (kω c)):Lim (fun n=>d5 P h t a i (k n)) (d5 P h t a i kω):=by
 unfold d5 fo
 split
 ·refine Lim.opt' fun _=> ?_
  split
  ·exact Lim.guard (hk _)
  ·exact Lim.opt' fun _=>jc fun _=>Lim.guard (hk _)
  ·split
   ·exact Lim.opt' fun _=>Lim.opt' fun _=>jc fun _=>Lim.guard (hk _)
   ·exact Lim.opt' fun _=>Lim.guard (hk _)
  ·exact .none
 ·refine Lim.opt' fun _=> ?_
  split
  ·exact Lim.guard (hk _)
  ·split
   ·exact Lim.opt' fun _=>Lim.guard (Lim.guard (hk _))
   ·exact Lim.opt' fun _=>Lim.guard (hk _)
  ·exact .none
 ·exact .none
theorem Ec {t:TypeId}{a:LV}{i:Int}{k:Nat→LV→Option β}{kω:LV→Option β}(hk: ∀c,Lim (fun n=>k n c) (kω c)):Lim (fun n=>iY P t a i (k n)) (iY P t a i kω):=by
 unfold iY fo
 split
 ·exact Lim.opt' fun _=>Lim.opt' fun _=>hk _
 ·split
  ·exact Lim.opt' fun _=>Lim.opt' fun _=>Lim.guard (Lim.opt' fun _=>jc fun _=>hk _)
  ·exact .none
 ·exact .none
theorem eM {ev:Operand→LV}{x:Option Operand}{d:Int}{k:Nat→Int→Option β}{kω:Int→Option β}(hk: ∀c,Lim (fun n=>k n c) (kω c)):Lim (fun n=>cP ev x d (k n)) (cP ev x d kω):=by
 unfold cP
 cases x
 ·exact hk _
 ·exact Lim.opt' fun _=>hk _
theorem Ed {t:TypeId}{x:LV}{lo hi:Option Operand}{ev:Operand→LV}{k:Nat→LV→Option β}{kω:LV→Option β}(hk: ∀c,Lim (fun n=>k n c) (kω c)):Lim (fun n=>fT P t x lo hi ev (k n)) (fT P t x lo hi ev kω):=by
 unfold fT
 split
 ·exact Lim.opt' fun _=>eM fun _=>eM fun _=>Lim.opt' fun _=>hk _
 ·refine Lim.opt' fun _=> ?_
  split
  ·exact Lim.opt' fun _=>eM fun _=>eM fun _=>Lim.guard (Lim.opt' fun _=>hk _)
  ·exact eM fun _=>eM fun _=>Lim.guard (Lim.opt' fun _=>hk _)
  ·exact eM fun _=>eM fun _=>Lim.guard (hk _)
  ·exact .none
 ·exact .none
theorem AC {h:OpHint}{t:TypeId}{xt:Option TypeId}{x y:LV}{s:S}{μ:Mu}{k:Nat→LV→S→Mu→Option β}{kω:LV→S→Mu→Option β}(hk: ∀v s μ,Lim (fun n=>k n v s μ) (kω v s μ)):Lim (fun n=>ez P h t xt x y s μ (k n)) (ez P h t xt x y s μ kω):=by
 unfold ez
 split
 ·refine Lim.opt' fun _=>Lim.guard (Lim.opt' fun _=>Lim.guard ?_)
  cases xt
  ·exact .none
  ·refine Lim.opt' fun _=> ?_
   split
   ·exact Lim.opt' fun _=>Lim.guard (hk _ _ _)
   ·exact Lim.opt' fun _=>Lim.guard (hk _ _ _)
   ·exact .none
 ·exact .none
theorem yU {h:OpHint}{src dst:TypeId}{x:LV}{s:S}{μ:Mu}{k:Nat→LV→S→Mu→Option β}{kω:LV→S→Mu→Option β}(hk: ∀v s μ,Lim (fun n=>k n v s μ) (kω v s μ)):Lim (fun n=>cJ P h src dst x s μ (k n)) (cJ P h src dst x s μ kω):=by
 unfold cJ
 split
 ·split
  ·exact Lim.opt' fun _=>hk _ _ _
  ·exact .none
 ·split
  ·exact Lim.opt' fun _=>hk _ _ _
  ·split
   ·split
    ·split
     ·exact Lim.guard (Lim.opt' fun _=>hk _ _ _)
     ·exact .none
    ·exact Lim.opt' fun _=>Lim.opt' fun _=>hk _ _ _
   ·exact .none
  ·exact .none
 ·split
  ·split
   ·refine Lim.opt' fun _=>Lim.guard ?_
    split
    ·exact hk _ _ _
    ·exact hk _ _ _
   ·exact .none
  ·exact .none
 ·exact .none
theorem qe {live:List (Nat×Nat)}{s:S}{k:Nat→S→Option β}{kω:S→Option β}(hk: ∀s,Lim (fun n=>k n s) (kω s)):Lim (fun n=>dh live s (k n)) (dh live s kω):=by
 unfold dh
 refine Lim.opt' fun _=> ?_
 cases s.pushed
 ·exact Lim.opt' fun _=>Lim.opt' fun _=>hk _
 ·exact hk _
theorem oA {L:Nat}{live:List (Nat×Nat)}{s:S}{k:Nat→S→Option β}{kω:S→Option β}(hk: ∀s,Lim (fun n=>k n s) (kω s)):Lim (fun n=>ia L live s (k n)) (ia L live s kω):=by
 unfold ia
 split
 ·exact hk _
 ·exact Lim.guard (hk _)
theorem Lim.optE {x:Option α}{k:Nat→α→Option β}{kω:α→Option β}{g:Nat→Option β}{gω:Option β}(hk: ∀a,Lim (fun n=>k n a) (kω a))(hg:Lim g gω):Lim (fun n=>Abs.optE x (k n) (g n)) (Abs.optE x kω gω):=by
 cases x with
 |none=>exact hg
 |some a=>exact hk a
theorem rz {t:TypeId}{m x y:LV}{s:S}{μ:Mu}{k:Nat→LV→S→Mu→Option β}{kω:LV→S→Mu→Option β}(hk: ∀v s μ,Lim (fun n=>k n v s μ) (kω v s μ)):Lim (fun n=>fY P t m x y s μ (k n)) (fY P t m x y s μ kω):=by
 unfold fY
 refine Lim.opt' fun _=>Lim.opt' fun _=>Lim.opt' fun _=> ?_
 split
 ·split
  ·exact Lim.guard (hk _ _ _)
  ·exact .none
 ·split
  ·exact Lim.guard (hk _ _ _)
  ·exact .none
 ·exact .none
theorem AE {t:TypeId}{m x:LV}{ok:Bool}{s:S}{μ:Mu}{k:Nat→LV→Option β}{kω:LV→Option β}(hk: ∀v,Lim (fun n=>k n v) (kω v)):Lim (fun n=>gP P t m x ok s μ (k n)) (gP P t m x ok s μ kω):=by
 unfold gP fo
 refine Lim.opt' fun _=>Lim.opt' fun _=>Lim.opt' fun _=>Lim.guard (Lim.optE (fun _=>jc fun _=> ?_) (Lim.opt' fun _=> ?_))
 ·cases ok<;>exact hk _
 ·cases ok<;>exact hk _
theorem AD {x:LV}{t:TypeId}{ok:Bool}{k:Nat→LV→Option β}{kω:LV→Option β}(hk: ∀v,Lim (fun n=>k n v) (kω v)):Lim (fun n=>gI P x t ok (k n)) (gI P x t ok kω):=by
 unfold gI
 split
 ·exact .none
 ·split
  ·exact .none
  ·refine Lim.opt' fun _=> ?_
   split
   ·split<;>exact hk _
   ·exact hk _
   ·exact .none
 ·exact .none
theorem IU {op:BinOp}{t:TypeId}{x y:Operand}{a b:LV}{k:Nat→CV→Option β}{kω:CV→Option β}(hk: ∀c,Lim (fun n=>k n c) (kω c)):Lim (fun n=>mH P op t x y a b (k n)) (mH P op t x y a b kω):=by
 unfold mH
 split
 ·exact Lim.opt' fun _=>Lim.opt' fun _=>Lim.opt' fun _=>hk _
 ·exact Lim.guard (Lim.opt' fun _=>hk _)
theorem ja: ∀{ms:List Nat} {cs:List LV} {k:Nat→List LV→Option β} {kω:List LV→Option β} (hk: ∀c,Lim (fun n=>k n c) (kω c)),Lim (fun n=>fb ms cs (k n)) (fb ms cs kω)
 |[],cs,k,kω,hk=>by unfold fb;exact hk _
 |m::ms,[],k,kω,hk=>by unfold fb;exact .none
 |m::ms,c::cs,k,kω,hk=>by
  unfold fb xb
  split
  ·exact ja fun _=>hk _
  ·exact Lim.opt' fun _=>ja fun _=>hk _
  ·exact Lim.opt' fun _=>ja fun _=>hk _
  ·exact Lim.opt' fun _=>ja fun _=>hk _
theorem lD: ∀{obs:List (Nat×List Nat)} {s:S} {k:Nat→S→Option β} {kω:S→Option β} (hk: ∀s,Lim (fun n=>k n s) (kω s)),Lim (fun n=>jE obs s (k n)) (jE obs s kω)
 |[],s,k,kω,hk=>by unfold jE;exact hk _
 |q::r,s,k,kω,hk=>by
  unfold jE
  split
  ·exact lD hk
  ·split
   ·exact ja fun _=>lD hk
   ·exact .none
structure LimR (ρ:Nat→Rho) (ρω:Rho):Prop where
 call: ∀f args μ,Lim (fun n=>(ρ n).call f args μ) (ρω.call f args μ)
 loop: ∀H lv c s μ,Lim (fun n=>(ρ n).loop H lv c s μ) (ρω.loop H lv c s μ)
 seg: ∀H lv c s μ,Lim (fun n=>(ρ n).seg H lv c s μ) (ρω.seg H lv c s μ)
 dcall: ∀f pv args μ,Lim (fun n=>(ρ n).dcall f pv args μ) (ρω.dcall f pv args μ)
variable {ρ:Nat→Rho}{ρω:Rho}
theorem ud (R:LimR ρ ρω){h:OpHint}{t:TypeId}{f:FuncId}{args:List LV}{s:S}{μ:Mu}{k:Nat→LV→S→Mu→Option β}{kω:LV→S→Mu→Option β}{p:Nat→CV→S→Mu→Option β}{pω:CV→S→Mu→Option β}
  (hk: ∀v s μ,Lim (fun n=>k n v s μ) (kω v s μ)) (hp: ∀v s μ,Lim (fun n=>p n v s μ) (pω v s μ)):Lim (fun n=>fc P (ρ n) h t f args s μ (k n) (p n)) (fc P ρω h t f args s μ kω pω):=by
 unfold fc
 split
 ·exact Lim.guard (Lim.callK (R.call _ _ _) (fun _ _=>jb fun _=>hk _ _ _) fun _ _=>hp _ _ _)
 ·exact Lim.opt' fun _=>Lim.opt' fun _=>Lim.callK (R.call _ _ _) (fun _ _=>Lim.opt' fun _=>jb fun _=>hk _ _ _) fun _ _=>Lim.opt' fun _=>hp _ _ _
theorem IV (R:LimR ρ ρω){h:OpHint}{o:Oper}{s:S}{μ:Mu}{k:Nat→LV→S→Mu→Option β}{kω:LV→S→Mu→Option β}{p:Nat→CV→S→Mu→Option β}{pω:CV→S→Mu→Option β}
  (hk: ∀v s μ,Lim (fun n=>k n v s μ) (kω v s μ)) (hp: ∀v s μ,Lim (fun n=>p n v s μ) (pω v s μ)):Lim (fun n=>cm P (ρ n) h o s μ (k n) (p n)) (cm P ρω h o s μ kω pω):=by
 unfold cm
 dsimp only
 split
 ·exact hk _ _ _
 ·exact hk _ _ _
 ·exact Lim.opt' fun _=>hk _ _ _
 ·exact Lim.opt' fun _=>hk _ _ _
 ·exact Lim.opt' fun _=>hk _ _ _
 ·exact Lim.opt' fun _=>Lim.opt' fun _=>hk _ _ _
 ·split
  ·refine Lim.opt' fun _=>Lim.guard (Lim.opt' fun _=>Lim.opt' fun _=>Lim.opt' fun _=>Lim.guard (Lim.guard ?_))
   split
   ·exact hk _ _ _
   ·exact hk _ _ _
  ·exact .none
 ·exact Hi hk
 ·exact Ee hk
 ·exact Lim.opt' fun _=>Lim.guard (hk _ _ _)
 ·exact IU fun _=>hk _ _ _
 ·exact Lim.opt' fun _=>hk _ _ _
 ·exact yU hk
 ·split
  ·exact .none
  ·exact Lim.opt' fun _=>hk _ _ _
  ·exact .none
 ·split
  ·split
   ·exact hk _ _ _
   ·exact .none
  ·exact .none
 ·split
  ·exact Ed fun _=>hk _ _ _
  ·exact .none
 ·exact vo fun _=>hk _ _ _
 ·exact Lim.opt' fun _=>hk _ _ _
 ·exact Lim.opt' fun _=>vp fun _=>hk _ _ _
 ·exact Lim.opt' fun _=>Ec fun _=>hk _ _ _
 ·exact Lim.opt' fun _=>Lim.opt' fun _=>hk _ _ _
 ·split
  ·exact hp _ _ _
  ·exact .none
 ·exact AD fun _=>hk _ _ _
 ·split
  ·exact .none
  ·exact hk _ _ _
 ·exact rz hk
 ·exact rz hk
 ·exact AE fun _=>hk _ _ _
 ·split
  ·split
   ·split
    ·exact Lim.opt' fun _=>hk _ _ _
    ·exact .none
   ·split
    ·exact AC hk
    ·exact .none
   ·split
    ·exact Lim.opt' fun _=>Lim.opt' fun _=>hk _ _ _
    ·exact .none
   ·split
    ·exact Lim.opt' fun _=>Lim.opt' fun _=>hk _ _ _
    ·exact .none
   ·exact .none
  ·refine Lim.guard ?_
   split
   ·exact ud R hk hp
   ·exact ud R hk hp
   ·exact .none
  ·exact .none
 ·exact .none
theorem vq (R:LimR ρ ρω){h:OpHint}{o:Oper}{s:S}{μ:Mu}{k:Nat→LV→S→Mu→Option β}{kω:LV→S→Mu→Option β}{p:Nat→CV→S→Mu→Option β}{pω:CV→S→Mu→Option β}
  (hk: ∀v s μ,Lim (fun n=>k n v s μ) (kω v s μ)) (hp: ∀v s μ,Lim (fun n=>p n v s μ) (pω v s μ)):Lim (fun n=>opK P (ρ n) h o s μ (k n) (p n)) (opK P ρω h o s μ kω pω):=by
 unfold opK
 exact Lim.opt' fun _=>Lim.opt' fun _=>IV R hk hp
theorem eV (R:LimR ρ ρω){H:Hints}{r:Nat}{ops:Array Oper}{p:Nat→CV→S→Mu→Option β}{pω:CV→S→Mu→Option β}(hp: ∀v s μ,Lim (fun n=>p n v s μ) (pω v s μ)):
  ∀(l:List Nat) {s:S} {μ:Mu} {k:Nat→S→Mu→Option β} {kω:S→Mu→Option β} (hk: ∀s μ,Lim (fun n=>k n s μ) (kω s μ)),Lim (fun n=>d7 P (ρ n) H r ops l s μ (k n) (p n)) (d7 P ρω H r ops l s μ kω pω)
 |[],s,μ,k,kω,hk=>by unfold d7;exact hk _ _
 |i::rest,s,μ,k,kω,hk=>by
  unfold d7
  cases ops[i]? with
  |none=>exact .none
  |some o=>
   dsimp only
   cases o.guard with
   |none=>exact vq R (fun _ _ _=>eV R hp rest hk) hp
   |some g=>
    refine Lim.opt' fun _=>Lim.opt' fun q=> ?_
    cases q with
    |none=>exact eV R hp rest hk
    |some b=>
    cases b<;>dsimp only[cond_true,cond_false]
    ·cases g.2
     ·exact vq R (fun _ _ _=>eV R hp rest hk) hp
     ·exact eV R hp rest hk
    ·cases g.2
     ·exact eV R hp rest hk
     ·exact vq R (fun _ _ _=>eV R hp rest hk) hp
theorem dN (R:LimR ρ ρω){H:Hints}: ∀(c:Code) {β:Type} {s:S} {μ:Mu} {k:Nat→St→Option β} {kω:St→Option β} (hk: ∀st,Lim (fun n=>k n st) (kω st)),Lim (fun n=>bA P (ρ n) H c s μ (k n)) (bA P ρω H c s μ kω)
 | .skip,β,s,μ,k,kω,hk=>by unfold bA;exact hk _
 | .region id ops draw,β,s,μ,k,kω,hk=>by
  unfold bA
  cases draw
  ·exact eV R (fun _ _ _=>hk _) _ fun _ _=>hk _
  ·exact Lim.guard (eV R (fun _ _ _=> .none) _ fun _ _=>hk _)
 | .seq x y,β,s,μ,k,kω,hk=>by
  unfold bA
  refine dN R x fun st=> ?_
  cases st
  ·dsimp only
   split
   ·exact dN R y hk
   ·exact lD fun _=>qe fun _=>oA fun _=>Lim.opt (R.seg _ _ _ _ _) hk
  ·exact hk _
  ·exact hk _
  ·exact hk _
 | .cond c x y,β,s,μ,k,kω,hk=>by
  unfold bA
  exact Lim.opt' fun _=>Lim.cond (dN R x hk) (dN R y hk)
 | .block id x,β,s,μ,k,kω,hk=>by
  unfold bA
  refine dN R x fun st=> ?_
  cases st
  ·exact hk _
  ·dsimp only
   split
   ·exact hk _
   ·exact hk _
  ·exact hk _
  ·exact hk _
 | .loop x,β,s,μ,k,kω,hk=>by
  unfold bA
  exact lD fun _=>qe fun _=>oA fun _=>Lim.opt (R.loop _ _ _ _ _) hk
 | .exit id,β,s,μ,k,kω,hk=>by unfold bA;exact hk _
 | .ret,β,s,μ,k,kω,hk=>by unfold bA;exact hk _
 | .rangeFunc ..,β,s,μ,k,kω,hk=>by unfold bA;exact .none
 | .scope ..,β,s,μ,k,kω,hk=>by unfold bA;exact .none
 | .label ..,β,s,μ,k,kω,hk=>by unfold bA;exact .none
 | .goto ..,β,s,μ,k,kω,hk=>by unfold bA;exact .none
 | .refuse ..,β,s,μ,k,kω,hk=>by unfold bA;exact .none
theorem ue (R:LimR ρ ρω){H:Hints}{lv:List (Nat×Nat)}{c:Code}{s:S}{μ:Mu}:Lim (fun n=>ky P (ρ n) H lv c s μ) (ky P ρω H lv c s μ):=by
 unfold ky
 refine dN R c fun st=> ?_
 cases st
 ·exact lD fun _=>qe fun _=>oA fun _=>R.loop _ _ _ _ _
 ·exact .const _
 ·exact .const _
 ·exact .const _
theorem yV (R:LimR ρ ρω){H:Hints}{lv:List (Nat×Nat)}{c:Code}{s:S}{μ:Mu}:Lim (fun n=>qA P (ρ n) H lv c s μ) (qA P ρω H lv c s μ):=by
 unfold qA
 refine dN R c fun st=> ?_
 exact .const _
theorem oz (R:LimR ρ ρω){t:Nat}{pv:Option CV}{s:S}{μ:Mu}{k:Nat→S→Mu→Option β}{kω:S→Mu→Option β}(hk: ∀s μ,Lim (fun n=>k n s μ) (kω s μ)):Lim (fun n=>iU (ρ n) t pv s μ (k n)) (iU ρω t pv s μ kω):=by
 unfold iU
 split
 ·exact Lim.opt' fun _=>Lim.opt' fun _=>Lim.opt (R.dcall _ _ _ _) fun _=>Lim.opt' fun _=>hk _ _
 ·exact .none
theorem Ea (R:LimR ρ ρω){H:Hints}{fn:Func}{c:Code}{t:Nat}{args:List LV}{μ:Mu}:Lim (fun n=>m3 P (ρ n) H fn c t args μ) (m3 P ρω H fn c t args μ):=by
 unfold m3
 split
 ·split
  ·exact .none
  ·split
   ·exact .none
   ·refine Lim.guard (dN R _ fun st=> ?_)
    cases st with
    |norm s μ=>
     refine eV R (fun _ _ _=> .none) _ fun _ _=>Lim.guard (dN R _ fun st=> ?_)
     cases st with
     |norm s μ=>exact oz R fun _ _=> .const _
     |ret s μ=>exact oz R fun _ _=> .const _
     |panic v s μ=>exact oz R fun _ _=> .const _
     |exit i s μ=>exact .none
    |_=>exact .none
 ·exact .none
theorem Eb (R:LimR ρ ρω){H:Hints}{fn:Func}{c:Code}{pv:Option CV}{args:List LV}{μ:Mu}:Lim (fun n=>m5 P (ρ n) H fn c pv args μ) (m5 P ρω H fn c pv args μ):=by
 unfold m5
 split
 ·split
  ·exact .none
  ·split
   ·exact .none
   ·refine Lim.guard (eV R (fun _ _ _=> .none) _ fun _ _=>dN R _ fun st=> .const _)
 ·exact .none
theorem oV (R:LimR ρ ρω){E:Env}{f:FuncId}{pv:Option CV}{args:List LV}{μ:Mu}:Lim (fun n=>fv E (ρ n) f pv args μ) (fv E ρω f pv args μ):=by
 unfold fv
 split
 ·split
  ·exact Eb R
  ·exact .none
 ·exact .none
theorem qd (R:LimR ρ ρω){E:Env}{f:FuncId}{args:List LV}{μ:Mu}:Lim (fun n=>aG E (ρ n) f args μ) (aG E ρω f args μ):=by
 unfold aG
 split
 ·exact .const _
 ·split
  ·split
   ·split
    ·unfold xa
     refine Lim.guard (dN R _ fun st=> ?_)
     exact .const _
    ·exact Ea R
   ·exact .none
  ·exact .none
end
open Classical in
noncomputable def mm {β:Type}(x:Nat→Option β):Option β:=if h: ∃r n,∀m,n≤m→x m=some r then some h.choose else none
theorem kn {β:Type}(x:Nat→Option β):Lim x (mm x):=by
 intro r h
 unfold mm at h
 split at h
 ·rename_i hh
  simp only[Option.some.injEq]at h
  subst h
  exact hh.choose_spec
 ·cases h
theorem lC {β:Type}{x:Nat→Option β}{r:β}(h: ∃n,∀m,n≤m→x m=some r):mm x=some r:=by
 have hh: ∃r n,∀m,n≤m→x m=some r:=⟨r,h⟩
 unfold mm
 rw[dif_pos hh]
 obtain⟨n,hn⟩:=h
 obtain⟨k,hk⟩:=hh.choose_spec
 rw[←hk (max n k) (by omega),hn (max n k) (by omega)]
noncomputable def ev (E:Env):Rho where
 call:=fun f args μ=>mm fun n=>(evn E n).call f args μ
 loop:=fun H lv c s μ=>mm fun n=>(evn E n).loop H lv c s μ
 seg:=fun H lv c s μ=>mm fun n=>(evn E n).seg H lv c s μ
 dcall:=fun f pv args μ=>mm fun n=>(evn E n).dcall f pv args μ
theorem tT (E:Env):LimR (evn E) (ev E):=⟨fun f args μ=>kn _,fun H lv c s μ=>kn _,fun H lv c s μ=>kn _,fun f pv args μ=>kn _⟩
theorem aN {E:Env}{f:FuncId}{args:List LV}{μ:Mu}{out:Out}(h:aG E (ev E) f args μ=some out):(ev E).call f args μ=some out:=by
 obtain⟨n,hn⟩:=qd (tT E) (E:=E) (f:=f) (args:=args) (μ:=μ) out h
 refine lC ⟨n+1,fun m hm=> ?_⟩
 obtain⟨q,rfl⟩: ∃q,m=q+1:=⟨m-1,by omega⟩
 exact hn q (by omega)
theorem Ld {E:Env}{H:Hints}{lv:List (Nat×Nat)}{c:Code}{s:S}{μ:Mu}{st:St}(h:ky E.P (ev E) H lv c s μ=some st):(ev E).loop H lv c s μ=some st:=by
 obtain⟨n,hn⟩:=ue (tT E) (P:=E.P) (H:=H) (lv:=lv) (c:=c) (s:=s) (μ:=μ) st h
 refine lC ⟨n+1,fun m hm=> ?_⟩
 obtain⟨q,rfl⟩: ∃q,m=q+1:=⟨m-1,by omega⟩
 exact hn q (by omega)
theorem Mi {E:Env}{H:Hints}{lv:List (Nat×Nat)}{c:Code}{s:S}{μ:Mu}{st:St}(h:qA E.P (ev E) H lv c s μ=some st):(ev E).seg H lv c s μ=some st:=by
 obtain⟨n,hn⟩:=yV (tT E) (P:=E.P) (H:=H) (lv:=lv) (c:=c) (s:=s) (μ:=μ) st h
 refine lC ⟨n+1,fun m hm=> ?_⟩
 obtain⟨q,rfl⟩: ∃q,m=q+1:=⟨m-1,by omega⟩
 exact hn q (by omega)
theorem yH {E:Env}{f:FuncId}{pv:Option CV}{args:List LV}{μ μ':Mu}(h:fv E (ev E) f pv args μ=some μ'):(ev E).dcall f pv args μ=some μ':=by
 obtain⟨n,hn⟩:=oV (tT E) (E:=E) (f:=f) (pv:=pv) (args:=args) (μ:=μ) μ' h
 refine lC ⟨n+1,fun m hm=> ?_⟩
 obtain⟨q,rfl⟩: ∃q,m=q+1:=⟨m-1,by omega⟩
 exact hn q (by omega)
theorem yI {E:Env}(hm:E.P.follows .mixedOrders=true){W0:World}(hp:qV E W0){f:FuncId}{args:List LV}{μ:Mu}{out:Out}(h:(ev E).call f args μ=some out):ck E.P W0 f args μ out:=by
 obtain⟨n,hn⟩:=kn _ out h
 exact(wc hm hp n).1 f args μ out (hn n (Nat.le_refl n))
end Go.Abs
set_option linter.unusedVariables false
set_option linter.unusedSimpArgs false
namespace Go.Abs
open Go Go.ChangeShapes Go.WideShapes
def Gh.top (w:World):Gh where
 O:=fun b=>match w.heap[b]? with|some (.cells cs _ _)=>cs.size|_=>0
 β:=fun _ _=>0
 n:=fun _=>0
 sz:=fun _ _=>0
def u0 (W w':World):Prop:=W.keptBut w' (fun _=>False)∧(∀a:Addr,a.block<W.heap.size→w'.frozen? a=W.frozen? a)∧W.heap.size≤w'.heap.size∧ ∀b,b<W.heap.size→w'.heap[b]? =W.heap[b]?
theorem Ll {W w':World}(ho:w'.os=W.os)(hu:w'.output=W.output)(hs:W.heap.size≤w'.heap.size)(hk: ∀b,b<W.heap.size→w'.heap[b]? =W.heap[b]?):u0 W w':=by
 refine⟨⟨ho,hu,fun i hi=> ?_⟩,fun a ha=> ?_,hs,hk⟩
 ·rw[hk i hi]
  cases W.heap[i]? with
  |none=>rfl
  |some o=>cases o<;>simp
 ·simp only[World.frozen?]
  rw[hk _ ha]
theorem HP {H:Type}{enc:TypeId×Value→H}{P:Program}{f:Func}{s:ChangeSpec}{apart fresh handsOn again:Bool}{W W':World}{args:Array Value}{v:Value}{ds gs:List (DataW H)}{before pa pv:List MemPlace}
  (hW:DataW.Whole enc P f.params.toList s.vars apart W args.toList ds gs before)
  (hres: ∀(b:Nat) (sp:Nat→Bool) (hd:Bool),DataW.TrodAll enc P W' b sp hd f.resultTypes.toList (v.resultList f.resultTypes.size) (s.fn H (ds++gs)).results [])
  (hargs: ∀sp:Nat→Bool,(∀p∈before,sp p.block=true)→DataW.TrodAll enc P W' 0 sp true f.params.toList args.toList (s.fn H (ds++gs)).args pa)
  (hvars: ∀sp:Nat→Bool,(∀p∈before,sp p.block=true)→DataW.TrodVars enc P W' sp s.vars (s.fn H (ds++gs)).vars pv)
  (hps:before=pa++pv) (hk:u0 W W')
  (hok: ∀(j:Nat) (t:TypeId) (r:Value),f.resultTypes[j]? =some t→(v.resultList f.resultTypes.size)[j]? =some r→Value.okWide P W' .any 0 t r):
  s.post enc P f apart fresh handsOn again W args v W':=by
 have hlt:=fun p hp=>hW.lt p hp
 have hold: ∀p∈before,(fun b=>decide (b<W.heap.size)) p.block=true:=fun p hp=>by simpa using hlt p hp
 refine⟨ds,gs,before,[],pa,pv,hW,hres _ _ _,hargs _ hold,hvars _ hold,World.keptBut_mono (fun _ f=>f.elim) hk.1,fun _=> ?_⟩
 obtain⟨_,_,_,_,_,hz,hn⟩:=hW
 refine⟨hok,_,_,([]++pa)++pv,⟨[]++pa,pv,trodAll_append (hargs _ (fun _ _=>rfl)) (hres _ _ _),hvars _ (fun _ _=>rfl),rfl,?_,?_⟩,?_⟩
 ·intro b off hp
  have hm:MemPlace.cell b off∈before:=by rw[hps];simpa using hp
  rw[hk.2.1 _ (hlt _ hm)]
  exact hz b off hm
 ·intro ha
  have:=hn ha
  rw[hps]at this
  simpa using this
 ·intro p hp _
  rw[hps]
  simpa using hp
section
variable {P:Program}{w:World}
theorem Rel.top {args:List CV}{cargs:Array Value}(hv: ∀j x,args[j]? =some x→VR (Gh.top w) w x (cargs.getD j undef)):Rel (Gh.top w) 0 (aM (args.map .cv)) [] cargs w∧ ∀b,¬ax (Gh.top w) w (aM (args.map .cv)) [] cargs b:=by
 have hlive: ∀lev i,¬aJ (aC ([]++[(aM (args.map .cv)).lam]) lev i):=by
  intro lev i h
  obtain⟨h1,_⟩:=jD (μ:=[]) h
  simp at h1
 have hown: ∀q b,¬av (Gh.top w) w (aM (args.map .cv)).fr cargs ([]++[(aM (args.map .cv)).lam]) q b:=by
  intro q b h
  cases q with
  |fr t=>
   simp only[av,bY,List.getElem?_map]at h
   cases hx:args[t]? with
   |none=>rw[hx]at h;simp[aD]at h
   |some x=>rw[hx]at h;simp[aD]at h
  |ob lev i k=>exact hlive lev i (eW h)
 refine⟨⟨rfl,fun t=> ?_,fun i=> ?_,fun lev i hl=>by omega,fun lev i lev' i' h _ _=>absurd h (hlive lev i),fun q q' b h _=>absurd h (hown q b),fun q b lev i h _ _=>hown q b h,fun lev hl=>by omega,?_,fun lev hl=>rfl⟩,?_⟩
 ·rw[bY,List.getElem?_map]
  cases hx:args[t]? with
  |none=>simp[LVR,VR]
  |some x=>simp only[Option.map_some,Option.getD_some,LVR];exact hv t x hx
 ·have:aF (aM (args.map .cv)).lam i= .dead:=by simp[aM,aF]
  rw[this];trivial
 ·simp[aM,Gh.top]
 ·rintro b (⟨q,h⟩|⟨lev,i,h,_⟩)
  ·exact hown q b h
  ·exact hlive lev i h
theorem ck.bool {f:FuncId}{args:List CV}{r:Bool}{μ':Mu}(hm:ck P w f (args.map .cv) [] (.ret (LV.bool r) μ')){cargs:Array Value}(hs:cargs.size=args.length)(hv: ∀j x,args[j]? =some x→VR (Gh.top w) w x (cargs.getD j undef)):
  Calls P f cargs w fun e w'=>e= .returned (.bool r)∧u0 w w':=by
 obtain⟨R,hT⟩:=Rel.top hv
 refine(hm.2 (Gh.top w) w cargs (by simpa using hs) R ⟨Nat.le_refl _,fun b _=>⟨rfl,hT b⟩⟩).mono fun e w' h=> ?_
 cases e with
 |returned cv=>
  simp only[ey]at h
  obtain⟨O',R',E⟩:=h
  have h0:=R'.fr 0
  simp only[bY,List.getElem?_cons_zero,Option.getD_some,LVR,VR]at h0
  have:cv= .bool r:=by simpa using h0
  subst this
  exact⟨rfl,Ll E.os E.output E.size fun b hb=>(E.keep b hb (hT b)).1⟩
 |panicked ch=>simp[ey]at h
 |outgrown=>simp[ey]at h
end
end Go.Abs
set_option linter.unusedVariables false
namespace Go.Abs
open Go
inductive Kont where
 |seq (b:Code)
 |block (id:Nat)
def g0 (P:Program)(ρ:Rho)(H:Hints){α:Type}:List Kont→St→(St→Option α)→Option α
 |[],st,k=>k st
 | .seq b::κ,st,k=>match st with
  | .norm s μ=>match DS (bw b) H.cuts with
   |none=>bA P ρ H b s μ fun st=>g0 P ρ H κ st k
   |some lv=>jE (rf (bw b) H.objs) s fun s=>dh lv.1 s fun s=>ia μ.length lv.1 s fun s=>opt (ρ.seg H lv.2 b s μ) fun st=>g0 P ρ H κ st k
  | .exit i s μ=>g0 P ρ H κ (.exit i s μ) k
  | .ret s μ=>g0 P ρ H κ (.ret s μ) k
  | .panic v s μ=>g0 P ρ H κ (.panic v s μ) k
 | .block id::κ,st,k=>match st with
  | .exit i s μ=>match Nat.beq i id with|true=>g0 P ρ H κ (.norm s μ) k|false=>g0 P ρ H κ (.exit i s μ) k
  | .norm s μ=>g0 P ρ H κ (.norm s μ) k
  | .ret s μ=>g0 P ρ H κ (.ret s μ) k
  | .panic v s μ=>g0 P ρ H κ (.panic v s μ) k
def KY (P:Program)(rs:List ResultVar)(st:St):Option Out:=
 match st with
 | .norm s μ=>ff P rs s μ
 | .ret s μ=>ff P rs s μ
 | .panic v _ μ=>ay (below μ.length v) (some (.panic v μ))
 | .exit _ _ _=>none
def JO (P:Program)(ρ:Rho)(H:Hints)(lv:List (Nat×Nat))(c:Code)(st:St):Option St:=
 match st with
 | .norm s μ=>jE (rf (bw c) H.objs) s fun s=>dh (H.lives (bw c)).1 s fun s=>ia μ.length (H.lives (bw c)).1 s fun s=>ρ.loop H lv c s μ
 | .exit i s μ=>dh lv s fun s=>some (.exit i s μ)
 | .ret s μ=>dh H.res s fun s=>some (.ret s μ)
 | .panic v s μ=>dh H.pan s fun s=>some (.panic v s μ)
def Nl (H:Hints)(lv:List (Nat×Nat))(st:St):Option St:=
 match st with
 | .norm s μ=>dh lv s fun s=>some (.norm s μ)
 | .exit i s μ=>dh lv s fun s=>some (.exit i s μ)
 | .ret s μ=>dh H.res s fun s=>some (.ret s μ)
 | .panic v s μ=>dh H.pan s fun s=>some (.panic v s μ)
def tj:Code→List Nat→Code
 |c,[]=>c
 | .seq a _,0::p=>tj a p
 | .seq _ b,_::p=>tj b p
 | .cond _ a _,0::p=>tj a p
 | .cond _ _ b,_::p=>tj b p
 | .block _ c,_::p=>tj c p
 | .loop c,_::p=>tj c p
 |c,_=>c
def Ma (P:Program)(f:FuncId):Code:=match P.funcs[f]? with|some fn=>(match fn.body with|some c=>c|none=> .skip)|none=> .skip
def Mg (P:Program)(f:FuncId)(p:List Nat):Code:=tj (Ma P f) p
def xm (P:Program)(f:FuncId):List ResultVar:=match P.funcs[f]? with|some fn=>fn.results.toList|none=>[]
def EZ {α:Type}:List (Nat×List Nat)→Lam→(Lam→Option α)→Option α
 |[],l,k=>k l
 |q::r,l,k=>match aF l q.1 with
  | .cells cs=>fb q.2 cs fun cs=>EZ r (l.set q.1 (.cells cs)) k
  |_=>none
def bd (l:List UInt8):List CV:=l.map fun b=> .v (.int .u8 (b.toNat:Int))
end Go.Abs
set_option linter.unusedVariables false
set_option linter.unusedSimpArgs false
namespace Go.Abs
open Go Go.RowKit
section
variable {P:Program}{W0:World}{G:Gh}{w w':World}{L:Nat}{μ:Mu}{s:S}{tm:Array Value}
theorem BY {p:Addr}{v:Value}(h:w.cell? p=some v):p.block<w.heap.size:=by
 by_cases hp:p.block<w.heap.size
 ·exact hp
 ·exfalso
  unfold World.cell? at h
  rw[Array.getElem?_eq_none (by omega)]at h
  simp at h
theorem CO {b:Nat}{o:Obj}(h:w.heap[b]? =some o):b<w.heap.size:=(Array.getElem?_eq_some_iff.1 h).1
theorem xO (hb:Below w.heap.size w w'):Le G w G w':=by
 refine⟨fun b es clk h h1=>⟨h,by rw[hb.block b (CO h1)];exact h1⟩,fun lev i h=>⟨h,rfl,rfl⟩,fun b off v h h1=>⟨h,?_⟩,fun b cur e fz h=>⟨cur,fz,?_,rfl⟩⟩
 ·rw[hb.cell (p:=⟨b,off,none⟩) (BY h1)];exact h1
 ·rw[hb.block b (CO h)];exact h
theorem Rel.later (R:Rel G L s μ tm w)(hb:Below w.heap.size w w'):Rel G L s μ tm w'∧(∀l b,av G w' s.fr tm (μ++[s.lam]) l b→av G w s.fr tm (μ++[s.lam]) l b):=
 R.frame (xO hb) (fun b h=>⟨hb.block b (R.touch_lt h),rfl⟩) (fun _ _ _=>⟨rfl,rfl⟩) rfl
theorem jd {f:FuncId}{args:List LV}{v:LV}(hf: ∃fn c,P.funcs[f]? =some fn∧fn.body=some c∧(fn.name == "runtime.NumGoroutine")=false)
  (hc : ∀ (G : Gh) (w : World) (cargs : Array Value), cargs.size = args.length → (∀ j x, args[j]? = some x → LVR G w μ.length 0 x (cargs.getD j undef)) → W0.heap.size ≤ w.heap.size → (∀ b, b < W0.heap.size → w.heap[b]? = W0.heap[b]?) →
   Calls P f cargs w fun e w'=> ∃cv,e= .returned cv∧Below w.heap.size w w'∧LVR G w' μ.length 0 v cv∧ ∀b,¬aD v cv b):ck P W0 f args μ (.ret v μ):=by
 refine⟨hf,fun G w cargs hs R hkn=> ?_⟩
 refine(hc G w cargs hs (fun j x hx=> ?_) hkn.1 (fun b hb=>(hkn.2 b hb).1)).mono fun e w' h=> ?_
 ·have:=R.fr j
  rw[bY,hx]at this
  exact this
 ·obtain⟨cv,rfl,hb,hv,hno⟩:=h
  obtain⟨R1,hO⟩:=R.later hb
  have hob: ∀lev i,aC (μ++[(aM [v]).lam]) lev i=aC (μ++[(aM args).lam]) lev i:=fun _ _=>rfl
  have hown: ∀q b,av (G.withO G.O) w' (aM [v]).fr #[cv] (μ++[(aM [v]).lam]) q b→av G w' (aM args).fr cargs (μ++[(aM args).lam]) q b:=by
   intro q b h
   cases q with
   |fr t=>
    exfalso
    simp only[av,bY]at h
    cases t with
    |zero=>exact hno b h
    |succ t=>simp[aD]at h
   |ob lev i k=>exact h
  refine⟨G.O,⟨R1.lev,fun t=> ?_,R1.lam,R1.mu,R1.inj,fun q q' b h h'=>R1.own q q' b (hown q b h) (hown q' b h'),fun q b lev i h h'=>R1.apart q b lev i (hown q b h) h',R1.nlt,R1.nL,R1.ngt⟩,?_⟩
  ·rw[bY]
   cases t with
   |zero=>exact hv
   |succ t=>simp[LVR,VR]
  ·refine⟨xO hb,hb.os,hb.tape,hb.output,hb.size,fun b hl _=>⟨hb.block b hl,rfl⟩,fun b h=> .inl ?_,fun _ _=>⟨fun _=>⟨rfl,rfl⟩,rfl⟩⟩
   rcases h with⟨q,h⟩|⟨lev,i,h,e⟩
   ·exact .inl ⟨q,hO q b (hown q b h)⟩
   ·exact .inr ⟨lev,i,h,e⟩
theorem qY {vals:List Value}{cargs:Array Value}(hs:cargs.size=(vals.map fun v=>LV.cv (.v v)).length)(hv: ∀j x,(vals.map fun v=>LV.cv (.v v))[j]? =some x→LVR G w L 0 x (cargs.getD j undef)):cargs=vals.toArray:=by
 simp only[List.length_map]at hs
 apply Array.ext
 ·simpa using hs
 ·intro j h1 h2
  have h3:j<vals.length:=by simpa using h2
  have:=hv j (.cv (.v vals[j])) (by simp[h3])
  simp only[LVR,VR,Array.getD_eq_getD_getElem?,Array.getElem?_eq_getElem h1,Option.getD_some]at this
  simpa using this
theorem Eg {f:FuncId}{vals:List Value}{r:Value}(hf: ∃fn c,P.funcs[f]? =some fn∧fn.body=some c∧(fn.name == "runtime.NumGoroutine")=false)
  (hc: ∀w:World,W0.heap.size≤w.heap.size→(∀b,b<W0.heap.size→w.heap[b]? =W0.heap[b]?)→Calls P f vals.toArray w fun e w'=>e= .returned r∧Below w.heap.size w w'):
  ck P W0 f (vals.map fun v=>LV.cv (.v v)) μ (.ret (.cv (.v r)) μ):=by
 refine jd hf fun G w cargs hs hv h1 h2=> ?_
 rw[qY hs hv]
 exact(hc w h1 h2).mono fun e w' ⟨h3,h4⟩=>⟨r,h3,h4,by simp[LVR,VR],fun b h=>by simp[aD]at h⟩
end
end Go.Abs
set_option linter.unusedVariables false
namespace Go.Abs
open Go
abbrev e7:=List LV→Mu→Option Out
def ri (g:List UInt8→Option LV):e7:=fun args μ=>opt (az args) fun q=>opt (aO q.2) fun _=>opt (aL q.1) fun s=>opt (g s) fun v=>some (.ret v μ)
def fL (g:List UInt8→List UInt8→Option LV):e7:=fun args μ=>opt (az args) fun q=>opt (az q.2) fun r=>opt (aO r.2) fun _=>opt (aL q.1) fun s=>opt (aL r.1) fun t=>opt (g s t) fun v=>some (.ret v μ)
def xl (g:List UInt8→List UInt8→List UInt8→Option LV):e7:=fun args μ=>opt (az args) fun q=>opt (az q.2) fun r=>opt (az r.2) fun z=>opt (aO z.2) fun _=>opt (aL q.1) fun s=>opt (aL r.1) fun t=>opt (aL z.1) fun u=>
 opt (g s t u) fun v=>some (.ret v μ)
def dn (s:List UInt8):Bool:=decide (s.length≤1000000)
def tG (s:List UInt8):Bool:=s.all fun b=>decide (b.toNat<128)
def oH:e7:=ri fun s=>ay (dn s) (some (LV.str (Lib.toUpperD s)))
def tI (err:TypeId)(s:List UInt8):LV:=match Lib.atoiAll s with
 | .ok v=> .ltup [LV.int .i64 v,.cv (.v .nilIface)]
 | .range=> .ltup [LV.int .i64 (Lib.atoiSat s),.cv (.iface err .undef)]
 |_=> .ltup [LV.int .i64 0,.cv (.iface err .undef)]
def xk (err:TypeId):e7:=ri fun s=>ay (dn s) (some (tI err s))
def uu:e7:=fun args μ=>opt (az args) fun q=>opt (aO q.2) fun _=>opt (aH .i64 q.1) fun n=>ay (decide (-9223372036854775808≤n)&&decide (n≤9223372036854775807)) (some (.ret (LV.str (Lib.itoa n)) μ))
def k7:e7:=fL fun s p=>some (LV.bool (Lib.hasPrefix s p))
def jT:e7:=fL fun s p=>some (LV.str (Lib.trimPrefix s p))
def vz (s:List UInt8):Option UInt8:=match s with|[c]=>some c|_=>none
def mq:e7:=fL fun s t=>opt (vz t) fun c=>ay (decide (c.toNat<128)) (some (LV.str (Lib.trimLeftB s c)))
def k8:e7:=fL fun s t=>opt (vz t) fun c=>ay (decide (c.toNat<128)&&dn s) (some (LV.str (Lib.trimRightB s c)))
def ut:e7:=fL fun s t=>ay (dn s) (some (LV.int .i64 (Lib.index s t)))
def wA:e7:=fL fun s t=>ay (dn s) (some (LV.bool (Lib.contains s t)))
def Nd:e7:=fL fun s t=>ay (dn s) (some (.ltup [LV.str (Lib.cut s t).1,LV.str (Lib.cut s t).2.1,LV.bool (Lib.cut s t).2.2]))
def wB:e7:=fL fun s t=>ay (dn s&&dn t&&tG s&&tG t) (some (LV.int .i64 (Lib.indexAny s t)))
def jS:e7:=xl fun s old new=>ay (dn s&&dn new&&decide (1≤old.length)) (some (LV.str (Lib.replaceAll s old new)))
def fR (preds:FuncId→Option (UInt8→Bool)):e7:=fun args μ=>opt (az args) fun q=>opt (az q.2) fun r=>opt (aO r.2) fun _=>opt (aL q.1) fun s=>match r.1 with
 | .cv (.clo g [])=>opt (preds g) fun p=>some (.ret (LV.bool (s.any p)) μ)
 |_=>none
def oG (bt:TypeId):e7:=fun args μ=>opt (az args) fun q=>opt (aO q.2) fun _=>match q.1 with
 | .cv (.tref lev i t n) => ay (Nat.beq t bt && Nat.beq n 2) (match aZ μ lev i with
  | .cells [a,b]=>match a with
   | .cv (.v (.pointer none))=>some (.ret (.ltup []) (bN μ lev i (.cells [.cv (.ref lev i 0),b])))
   | .cv (.ref l j 0)=>ay (Nat.beq l lev&&Nat.beq j i) (some (.ret (.ltup []) μ))
   |_=>none
  |_=>none)
 |_=>none
def vC (bt:TypeId):e7:=fun args μ=>opt (az args) fun q=>opt (aO q.2) fun _=>match q.1 with
 | .cv (.tref lev i t n) => ay (Nat.beq t bt && Nat.beq n 2) (match aZ μ lev i with
  | .cells [a,b]=>opt (fg b) fun xs=>opt (bb xs) fun s=>some (.ret (LV.str s) (bN μ lev i .dead))
  |_=>none)
 |_=>none
end Go.Abs
set_option linter.unusedVariables false
set_option maxRecDepth 1000000
namespace Go.Abs
open Go Go.Proofs
def H3:Hints:={cuts:=[(3,[(0,0),(3,0)],[(4,0)]),(5,[(0,0),(3,0)],[(4,0)])],res:=[(4,0)]}
def H4:Hints:={ops:=[((5,6),{take:=[17]}),((6,6),{take:=[23]}),((7,9),{take:=[3]}),((7,10),{take:=[6]}),((7,11),{take:=[35,36]})],cuts:=[(3,[(0,0)],[(2,0)]),(5,[(0,0)],[(2,0)])],res:=[(2,0)]}
def H5:Hints:={ops:=[((3,15),{take:=[34]}),((5,1),{take:=[46]}),((19,3),{take:=[124]}),((29,6),{take:=[176]}),((30,6),{take:=[182]}),((31,4),{take:=[12]}),((31,5),{take:=[15]}),((31,6),{take:=[189,190]})],live:=[(10,[(0,2),(1,2),(7,0),(8,0),(9,0)],[(7,0),(8,0)]),(17,[(0,2),(1,2),(7,0),(8,0),(9,0),(10,0)],[(0,2),(1,2),(7,0),(8,0),(9,0)]),(23,[(7,0),(8,0),(11,0)],[(7,0),(8,0)])],cuts:=[(3,[(0,2),(1,2)],[(4,0)]),(5,[(0,2),(1,2)],[(4,0)]),(8,[(0,2),(1,2)],[(4,0)]),(15,[(0,2),(1,2),(7,0),(8,0),(9,0)],[(0,2),(1,2),(7,0),(8,0),(9,0)]),(16,[(0,2),(1,2),(7,0),(8,0),(9,0)],[(0,2),(1,2),(7,0),(8,0),(9,0)]),(21,[(0,2),(1,2),(7,0),(8,0),(9,0),(10,0)],[(0,2),(1,2),(7,0),(8,0),(9,0),(10,0)]),(29,[(7,0),(8,0)],[(4,0)]),(33,[(13,0),(14,0),(16,0)],[(4,0)])],res:=[(4,0)]}
def H6:Hints:={cuts:=[(3,[(0,0),(1,0),(5,0)],[(6,0)]),(5,[(0,0),(1,0),(5,0)],[(6,0)]),(10,[(1,0),(5,0),(9,0),(10,0)],[(6,0)]),(13,[(5,0),(9,0),(12,0)],[(6,0)]),(15,[(5,0),(9,0)],[(6,0)])],res:=[(6,0)]}
def H7:Hints:={ops:=[((5,6),{take:=[26]}),((7,0),{take:=[3]}),((10,1),{take:=[38]}),((19,1),{take:=[62]}),((19,2),{take:=[63]}),((20,6),{take:=[70]}),((21,1),{take:=[74]}),((21,2),{take:=[75]}),((22,11),{take:=[10]}),((22,13),{take:=[90,91]}),((26,6),{take:=[113]}),((27,3),{take:=[15]}),((27,4),{take:=[3]}),((27,5),{take:=[119,120]})],live:=[(14,[(3,2),(6,0),(7,0)],[(3,2),(6,0)])],cuts:=[(3,[(0,0)],[(2,0)]),(5,[(0,0)],[(2,0)]),(8,[(3,2),(4,0)],[(2,0)]),(10,[(3,2)],[(2,0)]),(12,[(3,2)],[(2,0)]),(18,[(3,2),(6,0),(7,0)],[(3,2),(6,0),(7,0)]),(24,[(3,2),(6,0)],[(2,0)]),(26,[(3,2),(6,0)],[(2,0)])],res:=[(2,0)]}
def H8:Hints:={ops:=[((5,6),{take:=[26]}),((7,7),{take:=[37]}),((8,11),{take:=[50,51]}),((18,6),{take:=[113]}),((19,12),{take:=[15]}),((19,13),{take:=[3]}),((19,14),{take:=[128,129]})],live:=[(13,[(3,2),(6,0),(8,2),(12,0)],[(3,2),(6,0)])],cuts:=[(3,[(0,0)],[(2,0)]),(5,[(0,0)],[(2,0)]),(10,[(3,2),(6,0),(8,2),(10,0)],[(2,0)]),(12,[(3,2),(6,0),(8,2)],[(2,0)])],res:=[(2,0)]}
def H9:Hints:={ops:=[((3,1),{take:=[17]}),((5,1),{take:=[21]}),((5,2),{take:=[22]}),((6,1),{take:=[27]}),((6,2),{take:=[28]}),((7,1),{take:=[33]}),((10,1),{take:=[61]}),((13,1),{take:=[73]}),((18,6),{take:=[94]}),((19,3),{take:=[12]}),((19,4),{take:=[0]}),((19,5),{take:=[100,101]})],cuts:=[(3,[(0,2)],[(2,0)]),(5,[(0,2)],[(2,0)]),(10,[(0,2),(3,0),(4,0),(5,0),(6,0)],[(2,0)]),(13,[(0,2),(3,0),(4,0)],[(2,0)]),(16,[(0,2),(3,0),(4,0),(11,0)],[(2,0)]),(18,[(0,2),(3,0)],[(2,0)])],res:=[(2,0)]}
def H10:Hints:={cuts:=[(3,[(0,0),(1,0),(2,0)],[(6,0)]),(5,[(0,0),(1,0),(2,0)],[(6,0)]),(11,[(1,0),(2,0),(9,0),(10,0),(11,0),(12,0)],[(6,0)]),(14,[(2,0),(11,0),(12,0)],[(6,0)]),(16,[(2,0),(11,0),(12,0)],[(6,0)]),(18,[(2,0),(11,0),(12,0)],[(6,0)])],res:=[(6,0)]}
def H11:Hints:={ops:=[((1,5),{take:=[15]}),((2,0),{take:=[1]}),((2,1),{take:=[19]}),((3,5),{take:=[25]}),((6,24),{take:=[6]})]}
def H12:Hints:={cuts:=[(5,[(1,0)],[]),(13,[(0,0),(1,0),(39,0)],[])],res:=[(4,0)]}
def H13:Hints:={ops:=[((7,6),{take:=[51]}),((8,8),{take:=[5]})],cuts:=[(3,[(0,0),(1,0)],[(4,0)]),(5,[(0,0),(1,0)],[(4,0)]),(7,[(0,0),(1,0)],[(4,0)])],res:=[(4,0)]}
def H14:Hints:={ops:=[((10,7),{take:=[31]}),((10,14),{take:=[38]})],cuts:=[(6,[(1,0),(12,0)],[]),(8,[(1,0)],[]),(10,[(1,0)],[])],res:=[(2,0)]}
def H15:Hints:={ops:=[((10,3),{take:=[30]}),((10,9),{take:=[36]})]}
def H16:Hints:={}
def H17:Hints:={ops:=[((1,5),{take:=[7]})]}
def H18:Hints:={ops:=[((12,0),{take:=[6]}),((12,4),{take:=[33]}),((12,7),{take:=[37]}),((15,1),{take:=[6]}),((15,3),{take:=[43]})],live:=[(6,[(0,0),(6,1),(7,0)],[(6,1)])],cuts:=[(4,[(0,0)],[(2,2),(3,0),(4,0)]),(9,[(0,0),(6,1),(7,0)],[(0,0),(6,1),(7,0)]),(12,[(0,0),(6,1),(8,0)],[(0,0),(6,1),(7,0)])],res:=[(2,2),(3,0),(4,0)]}
def H19:Hints:={live:=[(4,[(0,2),(1,2),(5,0)],[])],cuts:=[(3,[(0,2),(1,2)],[(4,0)])],res:=[(4,0)]}
def H20:Hints:={live:=[(4,[(0,2),(3,0)],[])],cuts:=[(3,[(0,2)],[(2,0)])],res:=[(2,0)]}
def H21:Hints:={live:=[(4,[(0,2),(4,0)],[])],cuts:=[(3,[(0,2)],[(2,0),(3,0)])],res:=[(2,0),(3,0)]}
def H22:Hints:={ops:=[((2,0),{take:=[0]})],live:=[(3,[(1,0),(5,0),(8,2),(9,0),(10,0)],[(5,0)])],res:=[(4,0)]}
def H23:Hints:={}
def H24:Hints:={ops:=[((1,5),{take:=[7]})]}
def H25:Hints:={cuts:=[(4,[(0,0),(2,0),(4,0)],[(2,0),(3,0)]),(6,[(0,0),(2,0)],[(2,0),(3,0)]),(11,[(0,0),(2,0),(6,0)],[(2,0),(3,0)]),(17,[(2,0),(6,0),(11,0),(12,0)],[(2,0),(3,0)])],res:=[(2,0),(3,0)]}
def H26:Hints:={cuts:=[(3,[(0,0),(3,0)],[(4,0),(5,0)]),(5,[(0,0),(3,0)],[(4,0),(5,0)]),(7,[(0,0),(3,0)],[(4,0),(5,0)]),(10,[(0,0),(3,0),(6,0)],[(4,0),(5,0)])],res:=[(4,0),(5,0)]}
def H27:Hints:={live:=[(10,[(0,0),(2,0),(5,0),(6,0),(7,0),(8,0)],[(2,0),(5,0),(6,0),(7,0)]),(19,[(2,0),(5,0),(6,0)],[(2,0),(5,0),(6,0)])],cuts:=[(4,[(0,0),(2,0),(4,0)],[(2,0),(3,0)]),(6,[(0,0),(2,0),(4,0)],[(2,0),(3,0)]),(8,[(0,0),(2,0)],[(2,0),(3,0)])],res:=[(2,0),(3,0)]}
def H28:Hints:={cuts:=[(3,[(0,0),(3,0)],[(4,0),(5,0)]),(6,[(0,0),(3,0),(6,0)],[(4,0),(5,0)]),(8,[(0,0),(3,0),(6,0)],[(4,0),(5,0)]),(12,[(7,0),(8,0)],[(4,0),(5,0)])],res:=[(4,0),(5,0)]}
def H29:Hints:={ops:=[((1,1),{take:=[10]}),((4,0),{cell:=true}),((8,9),{push:=true}),((9,0),{push:=true}),((10,2),{push:=true}),((12,0),{push:=true}),((14,0),{push:=true})],live:=[(6,[(0,2),(6,0),(17,2),(18,0),(19,0),(1000001,0)],[(6,0)])],cuts:=[(4,[(0,2)],[(2,0),(3,0)]),(9,[(0,2),(6,0),(8,0),(17,2),(18,0),(19,0),(34,0)],[(0,2),(6,0),(8,0),(17,2),(18,0),(19,0)]),(10,[(0,2),(6,0),(8,0),(17,2),(18,0),(19,0)],[(0,2),(6,0),(17,2),(18,0),(19,0)]),(11,[(0,2),(6,0),(17,2),(18,0),(19,0)],[(0,2),(6,0),(17,2),(18,0),(19,0)]),(13,[(6,0),(41,0)],[(6,0)]),(14,[(6,0)],[(2,0),(3,0)])],objs:=[(6,[(1000000,[]),(0,[3,1])]),(9,[(0,[3,1])]),(10,[(0,[3,1])]),(11,[(0,[3,1])]),(13,[(0,[3,1])])],res:=[(2,0),(3,0)]}
def H30:Hints:={ops:=[((1,1),{take:=[0]}),((1,2),{take:=[3]}),((1,3),{take:=[5]})]}
def H31:Hints:={ops:=[((8,10),{take:=[31]}),((9,0),{take:=[7]}),((9,5),{take:=[35]}),((9,6),{take:=[40]}),((11,0),{take:=[7]})],live:=[(6,[(0,0),(4,0),(7,1),(19,0),(20,0)],[(7,1)])],cuts:=[(4,[(0,0),(4,0)],[(2,0),(3,0)])],res:=[(2,0),(3,0)]}
def H32:Hints:={ops:=[((13,7),{take:=[50]}),((19,0),{take:=[7]}),((19,10),{take:=[80]}),((19,11),{take:=[90]}),((30,0),{take:=[7]}),((30,4),{take:=[137]}),((30,14),{take:=[141]}),((31,7),{take:=[156]}),((35,0),{take:=[7]}),((35,4),{take:=[165]}),((35,11),{take:=[17]}),((35,18),{take:=[169]}),((38,1),{take:=[7]}),((38,4),{take:=[186]})],live:=[(7,[(0,0),(7,1),(8,0),(9,0)],[(7,1),(8,0)]),(20,[(0,0),(7,1),(8,0),(9,0),(12,0),(13,0)],[(0,0),(7,1),(8,0),(12,0),(13,0)])],cuts:=[(4,[(0,0)],[(2,2),(3,0),(4,0),(5,0)]),(10,[(0,0),(7,1),(8,0),(9,0)],[(0,0),(7,1),(8,0),(9,0)]),(14,[(0,0),(7,1),(8,0),(9,0),(10,0)],[(0,0),(7,1),(8,0),(9,0)]),(19,[(0,0),(7,1),(8,0),(9,0),(12,0),(13,0)],[(0,0),(7,1),(8,0),(9,0)]),(26,[(0,0),(7,1),(8,0),(9,0)],[(0,0),(7,1),(8,0),(9,0)]),(30,[(0,0),(7,1),(8,0),(9,0),(15,0)],[(0,0),(7,1),(8,0),(9,0)]),(31,[(0,0),(7,1),(8,0),(9,0)],[(0,0),(7,1),(8,0),(9,0)]),(35,[(0,0),(7,1),(8,0),(16,0),(17,2),(18,0)],[(0,0),(7,1),(8,0),(9,0)]),(38,[(7,1),(8,0)],[(2,2),(3,0),(4,0),(5,0)])],res:=[(2,2),(3,0),(4,0),(5,0)]}
def H35:Hints:={ops:=[((6,17),{take:=[30]}),((7,3),{take:=[5]}),((7,10),{take:=[36,42]})],live:=[(3,[(0,2),(3,0),(4,0)],[(3,0)])],cuts:=[(9,[(0,2),(3,0),(4,0)],[(0,2),(3,0),(4,0)])],res:=[(2,0)]}
def H36:Hints:={cuts:=[(4,[(2,0),(4,0),(5,0)],[(2,0),(3,0)]),(6,[(2,0),(4,0)],[(2,0),(3,0)])],res:=[(2,0),(3,0)]}
def H37:Hints:={cuts:=[(3,[(0,0)],[(2,0),(3,0)])],res:=[(2,0),(3,0)]}
def H38:Hints:={}
def H39:Hints:={ops:=[((1,6),{take:=[10]}),((6,0),{take:=[4]})],cuts:=[(4,[(2,0),(4,2)],[(2,0),(3,0)])],res:=[(2,0),(3,0)]}
def H40:Hints:={live:=[(5,[(0,0),(4,0),(5,0)],[(4,0)])],cuts:=[(3,[(0,0)],[(2,0),(3,0)])],res:=[(2,0),(3,0)]}
def H41:Hints:={live:=[(4,[(0,0),(5,0)],[])],cuts:=[(3,[(0,0)],[(4,0)])],res:=[(4,0)]}
def H42:Hints:={live:=[(3,[(0,0),(3,0),(4,0)],[(3,0)])],res:=[(2,0)]}
def H44:Hints:={}
def H46:Hints:={cuts:=[(4,[(2,0),(4,0)],[(2,0),(3,0)])],res:=[(2,0),(3,0)]}
def H47:Hints:={live:=[(2,[(0,0),(1,0),(5,0)],[(5,0)])],res:=[(4,0)]}
def H48:Hints:={}
def H49:Hints:={}
def H50:Hints:={ops:=[((1,0),{take:=[0]}),((1,2),{take:=[5]})]}
def H51:Hints:={ops:=[((1,1),{take:=[1]})]}
def H52:Hints:={ops:=[((1,1),{take:=[1]})]}
def H53:Hints:={live:=[(4,[(0,0),(3,0)],[])],cuts:=[(3,[(0,0)],[(2,0)])],res:=[(2,0)]}
def H54:Hints:={ops:=[((2,0),{take:=[0]})],live:=[(3,[(1,0),(5,0),(8,2),(9,0),(10,0)],[(5,0)])],res:=[(4,0)]}
def H55:Hints:={ops:=[((1,1),{take:=[1]})]}
def H56:Hints:={ops:=[((1,1),{take:=[1]})]}
def H57:Hints:={ops:=[((4,5),{take:=[24]})],cuts:=[(4,[(7,0),(8,0)],[(4,2),(5,0),(6,0)])],res:=[(4,2),(5,0),(6,0)]}
def H58:Hints:={live:=[(4,[(0,0),(1,0),(4,0),(6,0)],[(0,0),(1,0),(4,0),(6,0)]),(14,[(0,0),(1,0),(4,0),(85,2),(86,0),(87,0)],[(0,0),(1,0),(4,0)]),(20,[(0,0),(1,0),(4,0),(103,2),(104,0),(105,0)],[(4,0)]),(30,[(0,0),(1,0),(4,0),(11,0),(133,2),(134,0),(135,0)],[(0,0),(1,0),(4,0),(11,0)]),(36,[(0,0),(1,0),(4,0),(11,0),(164,2),(165,0),(166,0)],[(4,0),(11,0)])],cuts:=[(8,[(0,0),(1,0),(4,0),(6,0)],[(0,0),(1,0),(4,0)]),(11,[(0,0),(1,0),(4,0),(5,0),(60,0)],[(0,0),(1,0),(4,0)]),(28,[(0,0),(1,0),(4,0)],[(4,0)])],res:=[(4,0)]}
def H59:Hints:={live:=[(2,[(0,0),(7,2),(8,0),(9,0)],[])],res:=[(2,0),(3,0)]}
def H64:Hints:={cuts:=[(3,[(0,0)],[(2,0)])],res:=[(2,0)]}
def H65:Hints:={}
def H67:Hints:={}
def H68:Hints:={live:=[(8,[(6,0),(7,0),(8,0),(36,0),(37,0)],[(8,0)])],cuts:=[(4,[(0,0),(1,0),(6,0),(7,0)],[(4,0),(5,0)]),(6,[(6,0),(7,0)],[(4,0),(5,0)]),(12,[(6,0),(7,0),(8,0),(9,0),(36,0),(37,0)],[(6,0),(7,0),(8,0),(36,0),(37,0)])],res:=[(4,0),(5,0)]}
def H69:Hints:={live:=[(1,[(0,0)],[(0,0)])],res:=[(2,0)]}
def H70:Hints:={}
def H71:Hints:={cuts:=[(4,[(0,0)],[(0,0)]),(5,[(0,0)],[(2,0)])],res:=[(2,0)]}
def H72:Hints:={ops:=[((3,0),{take:=[0]})],live:=[(4,[(10,2),(11,0),(12,0)],[])],cuts:=[(3,[(0,2)],[(2,0),(3,0)])],res:=[(2,0),(3,0)]}
def H73:Hints:={cuts:=[(3,[(2,0),(3,0)],[(4,0)])],res:=[(4,0)]}
def H74:Hints:={ops:=[((2,3),{outer:=true}),((2,4),{cell:=true,outer:=true}),((2,7),{take:=[11]}),((2,9),{outer:=true}),((2,10),{take:=[14],outer:=true})]}
def H75:Hints:={ops:=[((2,3),{outer:=true}),((2,4),{cell:=true,outer:=true}),((2,6),{take:=[12]}),((2,8),{outer:=true}),((2,9),{take:=[14],outer:=true})]}
def H76:Hints:={ops:=[((1,2),{outer:=true}),((1,3),{outer:=true})]}
def H78:Hints:={ops:=[((4,3),{freeze:=[4]}),((5,1),{push:=true}),((7,4),{freeze:=[4]}),((8,0),{freeze:=[7]})],cuts:=[(5,[(7,0)],[(4,0),(5,0),(6,0)]),(6,[(7,0),(9,0),(10,0)],[(7,0)]),(8,[(7,0)],[(4,0),(5,0),(6,0)]),(10,[(7,0)],[(4,0),(5,0),(6,0)])],objs:=[(6,[(0,[0,0,1,1])])],res:=[(4,0),(5,0),(6,0)]}
def H79:Hints:={ops:=[((1,0),{take:=[0]}),((1,2),{take:=[5]})]}
def H80:Hints:={live:=[(3,[(0,0),(7,0),(8,0)],[(0,0),(7,0),(8,0)])],cuts:=[(9,[(7,0),(8,0)],[(4,0),(5,0),(6,0)])],res:=[(4,0),(5,0),(6,0)]}
def H81:Hints:={live:=[(4,[(0,0),(4,0),(5,0),(6,0),(7,0)],[(4,0)])],cuts:=[(8,[(0,0),(4,0),(5,0),(6,0),(7,0)],[(0,0),(4,0),(5,0),(6,0),(7,0)]),(11,[(4,0),(6,0),(7,0)],[(0,0),(4,0),(5,0),(6,0),(7,0)]),(13,[(4,0),(6,0),(7,0)],[(0,0),(4,0),(5,0),(6,0),(7,0)])],res:=[(4,0)]}
def H82:Hints:={ops:=[((7,7),{take:=[7]}),((7,10),{take:=[27]}),((7,12),{take:=[30]}),((9,1),{take:=[7]}),((9,3),{take:=[42]})],live:=[(4,[(0,0),(6,0),(7,1),(8,0)],[(6,0),(7,1)])],res:=[(4,0),(5,2)]}
def H83:Hints:={live:=[(4,[(1,0),(3,0)],[])],cuts:=[(3,[(1,0)],[(2,0)])],res:=[(2,0)]}
def H85:Hints:={}
def H86:Hints:={}
def H90:Hints:={}
def H92:Hints:={}
def H93:Hints:={}
def H94:Hints:={live:=[(2,[(0,2),(1,0),(7,0),(8,0)],[])],res:=[(4,0)]}
def H95:Hints:={live:=[(4,[(0,0),(19,0),(20,0)],[])],cuts:=[(3,[(0,0)],[(2,0)])],res:=[(2,0)]}
def H96:Hints:={}
def H97:Hints:={ops:=[((1,1),{arr:=true}),((1,2),{take:=[6]}),((5,3),{arr:=true}),((5,9),{arr:=true}),((6,5),{arr:=true}),((7,0),{take:=[3]})],live:=[(3,[(3,0),(4,0)],[(3,0)])],res:=[(2,0)]}
def H98:Hints:={ops:=[((4,0),{own:=true}),((4,2),{take:=[28]})],live:=[(5,[(0,0),(1,0),(4,0),(5,0),(6,0),(7,0),(30,2),(31,0),(32,0)],[(0,0),(1,0),(4,0),(5,0),(6,0),(7,0)])],cuts:=[(14,[(0,0),(1,0),(4,0),(5,0),(6,0),(7,0),(10,0),(11,0)],[(4,0)]),(20,[(0,0),(1,0),(4,0),(5,0),(6,0),(10,0),(11,0),(12,0),(13,0),(14,0),(15,0)],[(0,0),(1,0),(4,0),(5,0),(6,0),(10,0),(11,0),(12,0),(13,0),(14,0)]),(24,[(0,0),(1,0),(4,0),(5,0),(6,0),(10,0),(11,0),(12,0),(15,0),(16,0)],[(0,0),(1,0),(4,0),(5,0),(6,0),(10,0),(11,0),(12,0),(13,0),(14,0)]),(28,[(0,0),(1,0),(4,0),(5,0),(6,0),(10,0),(11,0),(12,0),(13,0),(14,0),(15,0),(16,0)],[(0,0),(1,0),(4,0),(5,0),(6,0),(10,0),(11,0),(12,0),(13,0),(14,0)]),(31,[(0,0),(1,0),(4,0),(5,0),(6,0),(10,0),(11,0),(12,0),(13,0),(14,0)],[(4,0)]),(34,[(0,0),(1,0),(4,0),(5,0),(6,0)],[(0,0),(1,0),(4,0),(5,0),(6,0),(10,0),(11,0),(12,0),(13,0)]),(38,[(0,0),(1,0),(4,0),(5,0),(6,0),(10,0),(11,0),(12,0),(13,0)],[(4,0)]),(41,[(0,0),(1,0),(4,0),(5,0),(6,0),(12,0),(13,0),(18,0)],[(4,0)]),(44,[(4,0),(6,0),(12,0),(13,0),(19,0),(20,0)],[(4,0)])],res:=[(4,0)]}
def H99:Hints:={}
def OB:Hints:={ops:=[((1,7),{take:=[7]})]}
def OC:Hints:={}
def OD:Hints:={}
def OE:Hints:={}
def kE:Hints:={ops:=[((2,3),{outer:=true}),((2,4),{outer:=true}),((2,10),{outer:=true}),((2,11),{outer:=true}),((4,3),{outer:=true}),((4,4),{outer:=true}),((7,3),{outer:=true}),((7,4),{cell:=true,outer:=true}),((7,7),{take:=[42]}),((7,10),{outer:=true}),((7,11),{take:=[45],outer:=true})],live:=[(2,[(0,0),(2,0),(3,0),(6,0)],[(0,0),(2,0),(3,0),(6,0)])],cuts:=[(6,[(0,0),(2,0),(3,0),(6,0)],[(0,0),(2,0),(3,0),(6,0)])],res:=[(2,0),(3,0),(6,0)],pan:=[(2,0),(3,0),(6,0)],dfr:=some 6}
def xD:Hints:={live:=[(2,[(0,2),(1,0),(7,0),(8,0)],[])],res:=[(4,0)]}
def Dv:Hints:={live:=[(3,[(0,0),(3,0),(4,0)],[(3,0)])],res:=[(2,0)]}
def OF:Hints:={}
def OG:Hints:={}
def OH:Hints:={}
def Dw:Hints:={live:=[(1,[(0,0)],[(0,0)])],res:=[(2,0)]}
def OI:Hints:={}
def OJ:Hints:={ops:=[((5,2),{outer:=true})]}
def dW:Hints:={ops:=[((1,2),{outer:=true}),((1,3),{outer:=true})],cuts:=[(6,[(0,0),(1,0),(4,0),(6,0)],[(4,0),(5,0)]),(18,[(4,0),(14,0),(15,0)],[(0,0),(1,0),(4,0)]),(23,[(0,0),(1,0),(4,0)],[(4,0),(5,0)])],res:=[(4,0),(5,0)]}
def r9:Hints:={ops:=[((1,2),{outer:=true}),((1,3),{outer:=true}),((3,2),{outer:=true}),((3,3),{outer:=true}),((5,2),{outer:=true}),((5,3),{outer:=true}),((5,6),{outer:=true}),((5,7),{outer:=true}),((6,7),{take:=[31]})],cuts:=[(3,[(0,0)],[(2,0)]),(5,[(0,0)],[(2,0)])],res:=[(2,0)]}
def lk:Hints:={ops:=[((6,5),{outer:=true}),((6,6),{outer:=true}),((9,2),{outer:=true}),((9,3),{outer:=true})],cuts:=[(6,[(0,0),(4,0),(10,0),(11,0)],[(4,0),(5,0),(6,0)]),(8,[(0,0),(4,0),(10,0),(11,0)],[(4,0),(5,0),(6,0)])],res:=[(4,0),(5,0),(6,0)]}
def Dx:Hints:={ops:=[((2,3),{outer:=true}),((2,4),{outer:=true}),((4,2),{outer:=true}),((4,3),{outer:=true})],cuts:=[(4,[(0,0),(1,0)],[(4,0),(5,0)])],res:=[(4,0),(5,0)]}
def sa:Hints:={ops:=[((4,0),{take:=[8]}),((5,0),{take:=[8]}),((5,3),{take:=[28]}),((5,5),{take:=[31]})],live:=[(2,[(0,0),(1,0),(2,0),(8,1)],[])],cuts:=[(5,[(0,0),(2,0),(8,1),(9,0),(10,0)],[(0,0),(1,0),(2,0),(8,1)])],res:=[(6,0),(7,0)]}
def OK:Hints:={}
def cH:Hints:={cuts:=[(9,[(0,0),(1,0),(4,0),(6,0),(7,0),(8,0)],[(4,0),(5,0)]),(12,[(1,0),(4,0),(6,0),(7,0),(14,0),(15,0),(16,0),(17,0)],[(4,0),(5,0)]),(14,[(1,0),(4,0),(6,0),(7,0),(14,0),(15,0),(17,0)],[(4,0),(5,0)]),(16,[(1,0),(4,0),(6,0),(7,0),(14,0),(15,0),(17,0)],[(4,0),(5,0)]),(21,[(1,0),(4,0),(14,0),(17,0),(18,0),(19,0)],[(4,0),(5,0)]),(23,[(1,0),(4,0),(18,0),(19,0)],[(4,0),(5,0)])],res:=[(4,0),(5,0)]}
def Dy:Hints:={ops:=[((7,2),{take:=[38]})],cuts:=[(4,[(0,0),(8,0)],[(4,0),(5,0),(6,0)])],res:=[(4,0),(5,0),(6,0)]}
def iN:Hints:={ops:=[((1,2),{outer:=true}),((1,3),{outer:=true}),((6,2),{outer:=true}),((6,3),{outer:=true}),((9,3),{outer:=true}),((9,4),{outer:=true}),((11,2),{outer:=true}),((11,3),{outer:=true})],live:=[(6,[(0,0),(1,0),(4,0),(6,0),(7,0),(8,0)],[(0,0),(1,0),(4,0),(7,0),(8,0)])],cuts:=[(9,[(0,0),(1,0),(4,0),(6,0),(7,0),(8,0),(9,0)],[(0,0),(1,0),(4,0),(6,0),(7,0),(8,0)]),(15,[(0,0),(1,0),(4,0),(7,0),(8,0)],[(4,0),(5,0)])],res:=[(4,0),(5,0)]}
def gZ:Hints:={ops:=[((7,5),{take:=[45]}),((13,2),{take:=[65]})],cuts:=[(7,[(4,0),(6,0),(7,0),(8,0),(9,0),(10,0)],[(4,0),(5,0)]),(9,[(4,0),(6,0),(7,0)],[(4,0),(5,0)]),(13,[(4,0),(7,0),(13,0)],[(4,0),(5,0)])],res:=[(4,0),(5,0)]}
def Dz:Hints:={ops:=[((3,3),{outer:=true}),((3,4),{cell:=true,outer:=true}),((3,7),{take:=[17]}),((3,9),{outer:=true}),((3,10),{take:=[20],outer:=true})],live:=[(1,[(0,0),(2,0),(6,0)],[])],res:=[]}
def DA:Hints:={ops:=[((1,2),{outer:=true}),((1,3),{outer:=true}),((1,8),{outer:=true}),((1,9),{outer:=true}),((1,16),{outer:=true}),((1,17),{outer:=true})],live:=[(1,[(0,0),(1,0)],[(1,0)])],res:=[(4,0)]}
def kF:Hints:={cuts:=[(5,[(0,0),(4,0),(9,0)],[(4,0),(5,0),(6,0),(7,0)]),(11,[(0,0),(4,0),(9,0),(10,0)],[(4,0),(5,0),(6,0),(7,0)])],res:=[(4,0),(5,0),(6,0),(7,0)]}
def OL:Hints:={}
def OM:Hints:={}
def ON:Hints:={ops:=[((1,8),{freeze:=[2]})]}
def Lh:FuncId→Hints
 |3=>H3
 |4=>H4
 |5=>H5
 |6=>H6
 |7=>H7
 |8=>H8
 |9=>H9
 |10=>H10
 |11=>H11
 |12=>H12
 |13=>H13
 |14=>H14
 |15=>H15
 |16=>H16
 |17=>H17
 |18=>H18
 |19=>H19
 |20=>H20
 |21=>H21
 |22=>H22
 |23=>H23
 |24=>H24
 |25=>H25
 |26=>H26
 |27=>H27
 |28=>H28
 |29=>H29
 |30=>H30
 |31=>H31
 |32=>H32
 |35=>H35
 |36=>H36
 |37=>H37
 |38=>H38
 |39=>H39
 |40=>H40
 |41=>H41
 |42=>H42
 |44=>H44
 |46=>H46
 |47=>H47
 |48=>H48
 |49=>H49
 |50=>H50
 |51=>H51
 |52=>H52
 |53=>H53
 |54=>H54
 |55=>H55
 |56=>H56
 |57=>H57
 |58=>H58
 |59=>H59
 |64=>H64
 |65=>H65
 |67=>H67
 |68=>H68
 |69=>H69
 |70=>H70
 |71=>H71
 |72=>H72
 |73=>H73
 |74=>H74
 |75=>H75
 |76=>H76
 |78=>H78
 |79=>H79
 |80=>H80
 |81=>H81
 |82=>H82
 |83=>H83
 |85=>H85
 |86=>H86
 |90=>H90
 |92=>H92
 |93=>H93
 |94=>H94
 |95=>H95
 |96=>H96
 |97=>H97
 |98=>H98
 |99=>H99
 |100=>OB
 |112=>OC
 |114=>OD
 |117=>OE
 |118=>kE
 |119=>xD
 |120=>Dv
 |122=>OF
 |132=>OG
 |133=>OH
 |134=>Dw
 |135=>OI
 |147=>OJ
 |148=>dW
 |166=>r9
 |167=>lk
 |168=>Dx
 |169=>sa
 |170=>OK
 |171=>cH
 |172=>Dy
 |173=>iN
 |174=>gZ
 |189=>Dz
 |190=>DA
 |191=>kF
 |192=>OL
 |193=>OM
 |196=>ON
 |_=>{}
def kA:FuncId→Option (UInt8→Bool)
 |122=>some fun b=>decide (b.toNat<32)||decide (126<b.toNat)
 |112=>some fun b=>decide (b.toNat<48)||decide (57<b.toNat)
 |44=>some fun b=>decide (b.toNat<48)||decide (57<b.toNat)
 |92=>some fun b=> !((decide (97≤b.toNat)&&decide (b.toNat≤122))||(decide (65≤b.toNat)&&decide (b.toNat≤90))||(decide (48≤b.toNat)&&decide (b.toNat≤57))||decide (b.toNat=95))
 |_=>none
def Fc:FuncId→Option e7
 |91=>some (oH)
 |45=>some (xk 146)
 |66=>some (uu)
 |195=>some (k7)
 |194=>some (jT)
 |62=>some (mq)
 |63=>some (k8)
 |145=>some (ut)
 |115=>some (wA)
 |61=>some (Nd)
 |60=>some (wB)
 |84=>some (jS)
 |43=>some (fR kA)
 |116=>some (oG 103)
 |77=>some (vC 103)
 |_=>none
noncomputable def E:Env:={P:=Tryz.prog,hints:=Lh,prim:=Fc}
def d8 {β:Type}(v:LV)(k:Int→Int→List UInt8→Option β):Option β:=opt (kh v) fun cs=>opt (az cs) fun q0=>opt (aH .i64 (.cv q0.1)) fun x0=>opt (az q0.2) fun q1=>opt (aH .i64 (.cv q1.1)) fun x1=>opt (az q1.2) fun q2=>opt (aL (.cv q2.1)) fun x2=>opt (aO q2.2) fun _=>k x0 x1 x2
def qw {β:Type}(v:LV)(k:Int→Int→List UInt8→Int→Int→Option β):Option β:=opt (kh v) fun cs=>opt (az cs) fun q0=>opt (aH .i64 (.cv q0.1)) fun x0=>opt (az q0.2) fun q1=>opt (aH .i64 (.cv q1.1)) fun x1=>opt (az q1.2) fun q2=>opt (aL (.cv q2.1)) fun x2=>opt (az q2.2) fun q3=>opt (aH .i64 (.cv q3.1)) fun x3=>opt (az q3.2) fun q4=>opt (aH .i64 (.cv q4.1)) fun x4=>opt (aO q4.2) fun _=>k x0 x1 x2 x3 x4
def KK {β:Type}(v:LV)(k:List UInt8→List UInt8→Option β):Option β:=opt (kh v) fun cs=>opt (az cs) fun q0=>opt (aL (.cv q0.1)) fun x0=>opt (az q0.2) fun q1=>opt (aL (.cv q1.1)) fun x1=>opt (aO q1.2) fun _=>k x0 x1
noncomputable section
def cA (f:FuncId)(p:List Nat):Code:=Mg E.P f p
def mS (fr:List (Nat×LV))(lam:Lam)(p:Bool:=false):S:={fr:=dl fr,lam:=lam,pushed:=p}
def kS (ρ:Rho)(H:Hints)(ks:List Kont)(lv:List (Nat×Nat))(st:St):Option St:=g0 E.P ρ H ks st (Nl H lv)
def kB (ρ:Rho)(f:FuncId)(H:Hints)(ks:List Kont)(st:St):Option Out:=g0 E.P ρ H ks st (KY E.P (xm E.P f))
def kR (ρ:Rho)(H:Hints)(ks:List Kont)(lv:List (Nat×Nat))(c:Code)(st:St):Option St:=g0 E.P ρ H ks st (JO E.P ρ H lv c)
abbrev pX (f:CV→Mu→St)(v:CV)(μ:Mu):Option St:=some (f v μ)
abbrev pP (v:CV)(μ:Mu):Option Out:=ay (below μ.length v) (some (.panic v μ))
structure SegD where
 H:Hints
 lv:List (Nat×Nat)
 c:Code
 s:S
def SegD.seg (d:SegD)(ρ:Rho)(μ:Mu):Option St:=ρ.seg d.H d.lv d.c d.s μ
def SegD.loop (d:SegD)(ρ:Rho)(μ:Mu):Option St:=ρ.loop d.H d.lv d.c d.s μ
def SegD.sK (d:SegD)(ρ:Rho)(μ:Mu):Option St:=qA E.P ρ d.H d.lv d.c d.s μ
def SegD.rK (d:SegD)(ρ:Rho)(μ:Mu):Option St:=ky E.P ρ d.H d.lv d.c d.s μ
theorem aU {d:SegD}{μ:Mu}{st:St}(h:d.sK (ev E) μ=some st):d.seg (ev E) μ=some st:=Mi h
theorem aV {d:SegD}{μ:Mu}{st:St}(h:d.rK (ev E) μ=some st):d.loop (ev E) μ=some st:=Ld h
end
end Go.Abs
