/-
  The statement TokensBlanksCardSaid, proved; part 3 of 8 of its proof.
  What an operation looks at, and what it turns.
  What an operation turns, by its kind.
  What an operation turns: all of them.
  Two operations of a region, one before the other or the other way round.
  Two operations of a region change places.
  A region whose order is open: what comes out in the program's order comes out in every order.
  Only some variables are known from here on: the loop's head.
  Code, loops, calls: what the interpreter does, the machine does.
  Deferred calls; all functions together.
  The interpreter without fuel.
  From the interpreter to a law: a call from outside, with arguments that are only read.
  Places to stop at: the interpreter goes on from a state, with what is left to be done written out.
  Functions that are taken by contract: what a contract must say.
  What the library's functions answer that are taken by contract: by Go's texts, as functions of lists of bytes.
  The hints of each function, and what reads a struct. Printed by a program.
-/
import Derived.Test.YtfcjjankfjaapaaGreatDoorK1
import Derived.Recover
import Derived.ProofKit
import Derived.KernelRfl
import Derived.Below
import Derived.Lib.MapU
import Derived.Lib.AtoiAll
import Derived.Lib.ItoaNum
import Derived.Lib.IndexAny
import Derived.Lib.IndexMore
import Derived.Lib.Replace
import Derived.Lib.TrimByte
import Derived.Test.YtfcjjankfjaapaaGreatDoorProg
set_option linter.all false
set_option linter.unusedSectionVars false
set_option linter.unusedVariables false
set_option linter.unusedSimpArgs false
namespace Go.Abs
open Go
def Ag (h:OpHint)(o:Oper)(s t:S):Prop:= ∀x,x∈o.op.operands.toList→evA h t.fr x=evA h s.fr x
section
variable {P:Program}{ρ:Rho}{h:OpHint}{o:Oper}{s t:S}{μ ν:Mu}
theorem iW {ev ev':Operand→LV}: ∀{l:List (Nat×Operand)},(∀q∈l,ev' q.2=ev q.2)→dq ev' l=dq ev l
 |[],_=>rfl
 |q::r,hq=>by
  simp only[dq]
  rw[hq q (by simp),iW fun x hx=>hq x (List.mem_cons_of_mem _ hx)]
def cl (P:Program)(ρ:Rho)(h:OpHint)(o:Oper)(s t:S)(μ ν:Mu):Prop:=bf P ρ h o t ν=opt (bf P ρ h o s μ) fun q=>some (q.1,ac h.take t,ν)
theorem EK {x:Operand}(ho:o.op= .move x∨o.op= .assign x)(ha:Ag h o s t):cl P ρ h o s t μ ν:=by
 have e:evA h t.fr x=evA h s.fr x:=ha x (by rcases ho with ho|ho<;>simp[ho,Op.operands])
 rcases ho with ho|ho<;>simp only[cl,bf,cH,ho,e,bu]
theorem O2 {c x y:Operand}(ho:o.op= .pick c x y)(ha:Ag h o s t):cl P ρ h o s t μ ν:=by
 have e1:=ha c (by simp[ho,Op.operands])
 have e2:=ha x (by simp[ho,Op.operands])
 have e3:=ha y (by simp[ho,Op.operands])
 simp only[cl,bf,cH,ho,e1,e2,e3,aE,bu]
theorem Mx {ty:TypeId}{parts:Array (Nat×Operand)}(ho:o.op= .build ty parts)(ha:Ag h o s t):cl P ρ h o s t μ ν:=by
 have e:dq (evA h t.fr) parts.toList=dq (evA h s.fr) parts.toList:=iW fun q hq=>ha q.2 (by simp only[ho,Op.operands];simp;exact⟨q.1,by simpa using hq⟩)
 simp only[cl,bf,cH,ho,e,aE,bu]
theorem C8 {x:Operand}(ho:o.op= .nilCheck x)(ha:Ag h o s t):cl P ρ h o s t μ ν:=by
 have e:=ha x (by simp[ho,Op.operands])
 simp only[cl,bf,cH,ho,e,aE,bK,bu]
theorem Mw {op:BinOp}{ty ty':TypeId}{x y:Operand}(ho:o.op= .binOp op ty x y ty')(ha:Ag h o s t):cl P ρ h o s t μ ν:=by
 have e1:=ha x (by simp[ho,Op.operands])
 have e2:=ha y (by simp[ho,Op.operands])
 simp only[cl,bf,cH,ho,e1,e2,AI,bu]
theorem O3 {op:UnOp}{ty:TypeId}{x:Operand}(ho:o.op= .unOp op ty x)(ha:Ag h o s t):cl P ρ h o s t μ ν:=by
 have e:=ha x (by simp[ho,Op.operands])
 simp only[cl,bf,cH,ho,e,aE,bu]
theorem uR {ty:TypeId}{x:Operand}(ho:o.op= .makeInterface ty x)(ha:Ag h o s t):cl P ρ h o s t μ ν:=by
 have e:=ha x (by simp[ho,Op.operands])
 simp only[cl,bf,cH,ho,e]
 split<;>simp only[aE,bu,eT]
theorem Ba {ty:TypeId}{x:Operand}{f:Nat}(ho:o.op= .fieldAddr ty x f)(ha:Ag h o s t):cl P ρ h o s t μ ν:=by
 have e:=ha x (by simp[ho,Op.operands])
 simp only[cl,bf,cH,ho,e,oE,bu]
theorem My {ty:TypeId}{x:Operand}{f:Nat}(ho:o.op= .field ty x f)(ha:Ag h o s t):cl P ρ h o s t μ ν:=by
 have e:=ha x (by simp[ho,Op.operands])
 simp only[cl,bf,cH,ho,e,aE,bu]
theorem Bb {ty:TypeId}{x y:Operand}(ho:o.op= .indexAddr ty x y)(ha:Ag h o s t):cl P ρ h o s t μ ν:=by
 have e1:=ha x (by simp[ho,Op.operands])
 have e2:=ha y (by simp[ho,Op.operands])
 simp only[cl,bf,cH,ho,e1,e2,aE,oF,bu]
theorem Mz {ty:TypeId}{x y:Operand}(ho:o.op= .index ty x y)(ha:Ag h o s t):cl P ρ h o s t μ ν:=by
 have e1:=ha x (by simp[ho,Op.operands])
 have e2:=ha y (by simp[ho,Op.operands])
 simp only[cl,bf,cH,ho,e1,e2,aE,vL,bu]
theorem Hn {x:Operand}{i:Nat}(ho:o.op= .extract x i)(ha:Ag h o s t):cl P ρ h o s t μ ν:=by
 have e:=ha x (by simp[ho,Op.operands])
 simp only[cl,bf,cH,ho,e,aE,bu]
theorem rc {β:Type}{ev ev':Operand→LV}{x:Option Operand}{d:Int}{f:Int→Option β}(h: ∀y,x=some y→ev' y=ev y):db ev' x d f=db ev x d f:=by
 cases x with
 |none=>rfl
 |some y=>simp only[db,h y rfl]
theorem Bt {β:Type}{ty:TypeId}{x:LV}{lo hi:Option Operand}{ev ev':Operand→LV}{f:LV→Option β}(h1: ∀y,lo=some y→ev' y=ev y)(h2: ∀y,hi=some y→ev' y=ev y):gm P ty x lo hi ev' f=gm P ty x lo hi ev f:=by
 unfold gm
 simp only[rc h1,rc h2]
theorem MA {ty:TypeId}{x:Operand}{lo hi mx:Option Operand}(ho:o.op= .slice ty x lo hi mx)(ha:Ag h o s t):cl P ρ h o s t μ ν:=by
 have e:=ha x (by simp[ho,Op.operands])
 have e1: ∀y,lo=some y→evA h t.fr y=evA h s.fr y:=fun y hy=>ha y (by simp[ho,Op.operands,hy])
 have e2: ∀y,hi=some y→evA h t.fr y=evA h s.fr y:=fun y hy=>ha y (by simp[ho,Op.operands,hy])
 simp only[cl,bf,cH,ho,e]
 cases mx with
 |none=>simp only[Bt e1 e2,vM,bu]
 |some m=>rfl
theorem yE {ty:TypeId}{len:Nat}{parts:Array (Nat×Operand)}(ho:o.op= .buildSlice ty len parts)(hr:h.arr=false)(ha:Ag h o s t):cl P ρ h o s t μ ν:=by
 have e:dq (evA h t.fr) parts.toList=dq (evA h s.fr) parts.toList:=iW fun q hq=>ha q.2 (by simp only[ho,Op.operands];simp;exact⟨q.1,by simpa using hq⟩)
 simp only[cl,bf,cH,ho,e,hr]
 split<;>simp only[aE,bK,bu,eT]
theorem C7 {fn:Fn}{first captured:Array Operand}(ho:o.op= .makeFunc fn first captured)(ha:Ag h o s t):cl P ρ h o s t μ ν:=by
 have e:(captured.toList.map fun x=>strip1 (evA h t.fr x))=captured.toList.map fun x=>strip1 (evA h s.fr x):=List.map_congr_left fun x hx=>by rw[ha x (by simp[ho,Op.operands];right;simpa using hx)]
 simp only[cl,bf,cH,ho,e]
 split
 ·split<;>rfl
 ·rfl
theorem yx {β:Type}{ty:TypeId}{xt:Option TypeId}{x y:LV}{f:LV→S→Mu→Option β}:eY P h ty xt x y t ν f=eY P h ty xt x y s μ fun v _ _=>f v t ν:=by
 unfold eY
 rfl
theorem Hm {c:Call}{b:Builtin}(ho:o.op= .call c)(hc:c.callee= .builtin b)(ha:Ag h o s t):cl P ρ h o s t μ ν:=by
 have hm: ∀x,x∈c.args.toList→evA h t.fr x=evA h s.fr x:=fun x hx=>ha x (by simp[ho,Op.operands,Call.operands,hc];simpa using hx)
 simp only[cl,bf,cH,ho,hc]
 split
 ·split
  ·rename_i x ty hx _
   rw[hm x (by rw[hx];simp)]
   simp only[aE,bu]
  ·rfl
 ·split
  ·rename_i x y ty xt hx _
   rw[hm x (by rw[hx];simp),hm y (by rw[hx];simp),sY]
   simp only[bu]
   exact yx
  ·rfl
 ·split
  ·rename_i x y hx
   rw[hm x (by rw[hx];simp),hm y (by rw[hx];simp)]
   simp only[aE,bu]
  ·rfl
 ·split
  ·rename_i x y hx
   rw[hm x (by rw[hx];simp),hm y (by rw[hx];simp)]
   simp only[aE,bu]
  ·rfl
 ·rfl
end
end Go.Abs
set_option linter.unusedVariables false
set_option linter.unusedSimpArgs false
namespace Go.Abs
open Go
section
variable {P:Program}{ρ:Rho}{h:OpHint}{o:Oper}{s t s':S}{μ ν μ':Mu}{v:LV}
def dJ (k:Kind)(s t:S)(μ ν:Mu):Prop:=
 match k with
 | .plain=>True
 | .rd=> ∀i,aK (aG s.lam i)→aG t.lam i=aG s.lam i
 | .wr=>t.lam=s.lam
 | .ap=>t.lam.length=s.lam.length
 | .look=>ν=μ∧t.pushed=s.pushed
 | .ou=>ν=μ∧t.pushed=s.pushed
 | .all=>t.lam=s.lam∧t.pushed=s.pushed∧ν=μ
def Eff (P:Program)(ρ:Rho)(h:OpHint)(o:Oper)(k:Kind)(s t:S)(μ ν:Mu)(v:LV)(s':S)(μ':Mu):Prop:=
 match k with
 | .plain=>s'=ac h.take s∧μ'=μ∧bf P ρ h o t ν=some (v,ac h.take t,ν)
 | .rd=>s'=ac h.take s∧μ'=μ∧bf P ρ h o t ν=some (v,ac h.take t,ν)
 | .wr=> ∃lam',s'={ac h.take s with lam:=lam'}∧μ'=μ∧bf P ρ h o t ν=some (v,{ac h.take t with lam:=lam'},ν)
 | .ap=> ∃ob,s'={ac h.take s with lam:=s.lam++[ob]}∧μ'=μ∧bf P ρ h o t ν=some (v,{ac h.take t with lam:=t.lam++[ob]},ν)
 | .look=>s'=ac h.take s∧μ'=μ∧bf P ρ h o t ν=some (v,ac h.take t,ν)
 | .ou=>s'=ac h.take s∧bf P ρ h o t ν=some (v,ac h.take t,μ')
 | .all=>s'.fr=(ac h.take s).fr∧bf P ρ h o t ν=some (v,{s' with fr:=(ac h.take t).fr},μ')
theorem Ag.self:Ag h o s s:=fun _ _=>rfl
theorem Jh (hp: ∀t ν,Ag h o s t→cl P ρ h o s t μ ν)(ha:Ag h o s t)(hst:bf P ρ h o s μ=some (v,s',μ')):Eff P ρ h o .plain s t μ ν v s' μ':=by
 have h1:=hp s μ Ag.self
 have h2:=hp t ν ha
 unfold cl at h1 h2
 rw[hst,bu]at h1 h2
 simp only[Option.some.injEq,Prod.mk.injEq,true_and]at h1
 exact⟨h1.1,h1.2,h2⟩
theorem C1 {ty:TypeId}{ob:Ob}{off:Nat}{w:LV}(h:bH P ty ob off=some w):aK ob:=by
 unfold bH at h
 obtain⟨_,_,h⟩:=ab.1 h
 cases ob<;>first|trivial|simp[oG]at h
theorem Lx {ty:TypeId}{x:Operand}(ho:o.op= .load ty x)(ha:Ag h o s t)(hc:dJ (aV h o) s t μ ν)(hst:bf P ρ h o s μ=some (v,s',μ')):Eff P ρ h o (aV h o) s t μ ν v s' μ':=by
 have e:=ha x (by simp[ho,Op.operands])
 have l1:=aT h.take s
 have l2:=aT h.take t
 have hs1:bf P ρ h o s μ=f8 P h ty (evA h s.fr x) (ac h.take s) μ fun v s μ=>some (v,s,μ):=by simp only[bf,cH,ho]
 have ht1:bf P ρ h o t ν=f8 P h ty (evA h s.fr x) (ac h.take t) ν fun v s μ=>some (v,s,μ):=by simp only[bf,cH,ho,e]
 rw[hs1]at hst
 unfold Eff
 rw[ht1]
 clear hs1 ht1 e ha
 simp only[aV,ho]at hc ⊢
 unfold f8 at hst ⊢
 generalize evA h s.fr x=q at hst ⊢
 cases hou:h.outer with
 |false=>
  simp only[hou]at hc hst ⊢
  cases hce:h.cell with
  |false=>
   simp only[hce,dJ]at hc hst ⊢
   cases q with
   |loc i off=>
    dsimp only at hst ⊢
    obtain⟨w,h1,h2⟩:=ab.1 hst
    obtain⟨y,h3,_⟩:=qu h2
    simp only[Option.some.injEq,Prod.mk.injEq]at h3
    obtain⟨rfl,rfl,rfl⟩:=h3
    refine⟨rfl,rfl,ab.2 ⟨w,?_,?_⟩⟩
    ·rw[l1.1]at h1
     rw[l2.1,hc i (C1 h1)]
     exact h1
    ·have:(js P h.arr ty w fun v=>some (v,ac h.take t,ν))=opt (js P h.arr ty w fun v=>some (v,ac h.take s,μ)) fun q=>some (q.1,ac h.take t,ν):=by
      rw[ta]
      rfl
     rw[this,h2]
     rfl
   |cv c=>
    dsimp only at hst ⊢
    obtain⟨cs,h1,h2⟩:=ab.1 hst
    obtain⟨c',h3,h4⟩:=ab.1 h2
    simp only[Option.some.injEq,Prod.mk.injEq]at h4
    obtain⟨rfl,rfl,rfl⟩:=h4
    exact⟨rfl,rfl,ab.2 ⟨cs,h1,ab.2 ⟨c',h3,rfl⟩⟩⟩
   |osl _=>cases hst
   |lsl _ _ _=>cases hst
   |lclo _ _=>cases hst
   |mloc _=>cases hst
   |tloc _ _ _=>cases hst
   |ltup _=>cases hst
  |true=>
   simp only[hce,dJ]at hc hst ⊢
   cases q with
   |loc i off=>
    dsimp only at hst ⊢
    obtain⟨w,h1,h2⟩:=ab.1 hst
    simp only[Option.some.injEq,Prod.mk.injEq]at h2
    obtain⟨rfl,rfl,rfl⟩:=h2
    refine⟨_,rfl,rfl,ab.2 ⟨w,?_,?_⟩⟩
    ·rw[l2.1,hc,←l1.1];exact h1
    ·rw[l2.1,hc,←l1.1]
   |cv c=>
    dsimp only at hst ⊢
    obtain⟨cs,h1,h2⟩:=ab.1 hst
    obtain⟨c',h3,h4⟩:=ab.1 h2
    simp only[Option.some.injEq,Prod.mk.injEq]at h4
    obtain⟨rfl,rfl,rfl⟩:=h4
    refine⟨s.lam,by rw[←l1.1],rfl,ab.2 ⟨cs,h1,ab.2 ⟨c',h3,?_⟩⟩⟩
    rw[←hc,←l2.1]
   |osl _=>cases hst
   |lsl _ _ _=>cases hst
   |lclo _ _=>cases hst
   |mloc _=>cases hst
   |tloc _ _ _=>cases hst
   |ltup _=>cases hst
 |true=>
  have hc':ν=μ∧t.pushed=s.pushed:=by
   cases hce:h.cell<;>simpa only[hou,hce,dJ]using hc
  clear hc
  obtain⟨rfl,hpu⟩:=hc'
  simp only[hou]at hst ⊢
  cases q with
  |cv c=>
   dsimp only at hst ⊢
   obtain⟨q,h1,hst⟩:=ab.1 hst
   have k1:s'=ac h.take s∧(h.cell=false→μ'=ν):=by
    cases hce:h.cell with
    |false=>
     simp only[hce]at hst
     obtain⟨w,h2,hst⟩:=ab.1 hst
     obtain⟨y,h3,_⟩:=ek hst
     simp only[Option.some.injEq,Prod.mk.injEq]at h3
     exact⟨h3.2.1.symm,fun _=>h3.2.2.symm⟩
    |true=>
     simp only[hce]at hst
     obtain⟨w,h2,hst⟩:=ab.1 hst
     obtain⟨y,h3,_⟩:=ek hst
     simp only[Option.some.injEq,Prod.mk.injEq]at h3
     exact⟨h3.2.1.symm,fun h=>by cases h⟩
   have k2:f8 P h ty (LV.cv c) (ac h.take t) ν (fun v s μ=>some (v,s,μ))=some (v,ac h.take t,μ'):=by
    simp only[f8,hou]
    refine ab.2 ⟨q,h1,?_⟩
    have key: ∀{own:Bool} {w:LV} {m:Mu},(dv P own ty w fun v=>some (v,ac h.take s,m))=some (v,s',μ')→(dv P own ty w fun v=>some (v,ac h.take t,m))=some (v,ac h.take t,μ'):=by
     intro own w m hk
     have:(dv P own ty w fun v=>some (v,ac h.take t,m))=opt (dv P own ty w fun v=>some (v,ac h.take s,m)) fun q=>some (q.1,ac h.take t,q.2.2):=by
      rw[iq]
      rfl
     rw[this,hk]
     rfl
    cases hce:h.cell with
    |false=>
     simp only[hce]at hst ⊢
     obtain⟨w,h2,hst⟩:=ab.1 hst
     exact ab.2 ⟨w,h2,key hst⟩
    |true=>
     simp only[hce]at hst ⊢
     obtain⟨w,h2,hst⟩:=ab.1 hst
     exact ab.2 ⟨w,h2,key hst⟩
   simp only[f8,hou]at k2
   cases hce:h.cell with
   |false=>
    have e:=k1.2 hce
    subst e
    exact⟨k1.1,rfl,by simpa only[hce]using k2⟩
   |true=>exact⟨k1.1,by simpa only[hce]using k2⟩
  |loc i off=>cases hst
  |osl _=>cases hst
  |lsl _ _ _=>cases hst
  |lclo _ _=>cases hst
  |mloc _=>cases hst
  |tloc _ _ _=>cases hst
  |ltup _=>cases hst
theorem Ji {ty:TypeId}{x y:Operand}(ho:o.op= .store ty x y)(ha:Ag h o s t)(hc:dJ (aV h o) s t μ ν)(hst:bf P ρ h o s μ=some (v,s',μ')):Eff P ρ h o (aV h o) s t μ ν v s' μ':=by
 have e1:=ha x (by simp[ho,Op.operands])
 have e2:=ha y (by simp[ho,Op.operands])
 have l1:=aT h.take s
 have l2:=aT h.take t
 have hs1:bf P ρ h o s μ=gp P h ty (evA h s.fr x) (evA h s.fr y) (ac h.take s) μ fun v s μ=>some (v,s,μ):=by simp only[bf,cH,ho]
 have ht1:bf P ρ h o t ν=gp P h ty (evA h s.fr x) (evA h s.fr y) (ac h.take t) ν fun v s μ=>some (v,s,μ):=by simp only[bf,cH,ho,e1,e2]
 rw[hs1]at hst
 unfold Eff
 rw[ht1]
 clear hs1 ht1 e1 e2 ha
 simp only[aV,ho]at hc ⊢
 unfold gp at hst ⊢
 generalize evA h s.fr x=q at hst ⊢
 generalize evA h s.fr y=u at hst ⊢
 cases hou:h.outer with
 |false=>
  simp only[hou,dJ]at hc hst ⊢
  cases q with
  |loc i off=>
   dsimp only at hst ⊢
   rw[kH]at hst ⊢
   obtain⟨w,h1,h2⟩:=ab.1 hst
   simp only[Option.some.injEq,Prod.mk.injEq]at h2
   obtain⟨rfl,rfl,rfl⟩:=h2
   refine⟨_,rfl,rfl,ab.2 ⟨w,?_,?_⟩⟩
   ·rw[l2.1,hc,←l1.1];exact h1
   ·rw[l2.1,hc,←l1.1]
  |cv c=>cases hst
  |osl _=>cases hst
  |lsl _ _ _=>cases hst
  |lclo _ _=>cases hst
  |mloc _=>cases hst
  |tloc _ _ _=>cases hst
  |ltup _=>cases hst
 |true=>
  simp only[hou,dJ]at hc hst ⊢
  obtain⟨rfl,hpu⟩:=hc
  cases q with
  |cv c=>
   dsimp only at hst ⊢
   obtain⟨q,h1,h2⟩:=ab.1 hst
   obtain⟨h3,h4⟩:=aJ.1 h2
   obtain⟨w,h5,h6⟩:=ab.1 h4
   simp only[Option.some.injEq,Prod.mk.injEq]at h6
   obtain⟨rfl,rfl,rfl⟩:=h6
   exact⟨rfl,ab.2 ⟨q,h1,aJ.2 ⟨h3,ab.2 ⟨w,h5,rfl⟩⟩⟩⟩
  |loc i off=>cases hst
  |osl _=>cases hst
  |lsl _ _ _=>cases hst
  |lclo _ _=>cases hst
  |mloc _=>cases hst
  |tloc _ _ _=>cases hst
  |ltup _=>cases hst
theorem Jg {ty:TypeId}(ho:o.op= .alloc ty)(hc:dJ (aV h o) s t μ ν)(hst:bf P ρ h o s μ=some (v,s',μ')):Eff P ρ h o (aV h o) s t μ ν v s' μ':=by
 have l1:=aT h.take s
 have l2:=aT h.take t
 simp only[aV,ho,dJ]at hc
 simp only[aV,ho,Eff]
 simp only[bf,cH,ho]at hst ⊢
 obtain⟨w,h1,h2⟩:=ab.1 hst
 simp only[Option.some.injEq,Prod.mk.injEq]at h2
 obtain⟨rfl,rfl,rfl⟩:=h2
 refine⟨_,by rw[l1.1],rfl,ab.2 ⟨w,h1,?_⟩⟩
 rw[l1.1,l2.1,hc]
theorem Oa {ty:TypeId}{x:Operand}(ho:o.op= .box ty x)(ha:Ag h o s t)(hc:dJ (aV h o) s t μ ν)(hst:bf P ρ h o s μ=some (v,s',μ')):Eff P ρ h o (aV h o) s t μ ν v s' μ':=by
 have e:=ha x (by simp[ho,Op.operands])
 have l1:=aT h.take s
 have l2:=aT h.take t
 simp only[aV,ho,dJ]at hc
 simp only[aV,ho,Eff]
 simp only[bf,cH,ho,e]at hst ⊢
 obtain⟨w,h1,h2⟩:=ab.1 hst
 simp only[Option.some.injEq,Prod.mk.injEq]at h2
 obtain⟨rfl,rfl,rfl⟩:=h2
 refine⟨_,by rw[l1.1],rfl,ab.2 ⟨w,h1,?_⟩⟩
 rw[l1.1,l2.1,hc]
theorem wV {ty:TypeId}{len:Nat}{parts:Array (Nat×Operand)}(ho:o.op= .buildSlice ty len parts)(hr:h.arr=true)(ha:Ag h o s t)(hc:dJ (aV h o) s t μ ν)(hst:bf P ρ h o s μ=some (v,s',μ')):Eff P ρ h o (aV h o) s t μ ν v s' μ':=by
 have e:dq (evA h t.fr) parts.toList=dq (evA h s.fr) parts.toList:=iW fun q hq=>ha q.2 (by simp only[ho,Op.operands];simp;exact⟨q.1,by simpa using hq⟩)
 have l1:=aT h.take s
 have l2:=aT h.take t
 simp only[aV,ho,hr,dJ]at hc
 simp only[aV,ho,hr,Eff]
 simp only[bf,cH,ho,e,hr]at hst ⊢
 split at hst<;>try(cases hst;done)
 obtain⟨sz,h1,hst⟩:=ab.1 hst
 obtain⟨h2,hst⟩:=aJ.1 hst
 obtain⟨z,h3,hst⟩:=ab.1 hst
 obtain⟨ps,h4,hst⟩:=ab.1 hst
 obtain⟨xs,h5,hst⟩:=ab.1 hst
 obtain⟨h6,hst⟩:=aJ.1 hst
 obtain⟨h7,hst⟩:=aJ.1 hst
 simp only[Option.some.injEq,Prod.mk.injEq]at hst
 obtain⟨rfl,rfl,rfl⟩:=hst
 refine⟨_,by rw[l1.1],rfl,ab.2 ⟨sz,h1,aJ.2 ⟨h2,ab.2 ⟨z,h3,ab.2 ⟨ps,h4,ab.2 ⟨xs,h5,aJ.2 ⟨h6,aJ.2 ⟨h7,?_⟩⟩⟩⟩⟩⟩⟩⟩
 rw[l1.1,l2.1,hc]
theorem wP {β:Type}{src dst:TypeId}{q:LV}{f:LV→S→Mu→Option β}(hr:h.arr=false)(hq: ∀id off len,q≠ .lsl id off len):
  cV P h src dst q t ν f=cV P h src dst q s μ fun v _ _=>f v t ν:=by
 unfold cV
 simp only[hr]
theorem B4 {src dst:TypeId}{x:Operand}(ho:o.op= .convert src dst x)(hr:h.arr=false)(ha:Ag h o s t)(hc:dJ (aV h o) s t μ ν)(hst:bf P ρ h o s μ=some (v,s',μ')):Eff P ρ h o (aV h o) s t μ ν v s' μ':=by
 have e:=ha x (by simp[ho,Op.operands])
 have l1:=aT h.take s
 have l2:=aT h.take t
 have hs1:bf P ρ h o s μ=cV P h src dst (evA h s.fr x) (ac h.take s) μ fun v s μ=>some (v,s,μ):=by simp only[bf,cH,ho]
 have ht1:bf P ρ h o t ν=cV P h src dst (evA h s.fr x) (ac h.take t) ν fun v s μ=>some (v,s,μ):=by simp only[bf,cH,ho,e]
 rw[hs1]at hst
 unfold Eff
 rw[ht1]
 clear hs1 ht1 e ha
 simp only[aV,ho,hr,dJ]at hc ⊢
 generalize evA h s.fr x=q at hst ⊢
 by_cases hq: ∀id off len,q≠ .lsl id off len
 ·have key: ∀(t:S) (ν:Mu),(cV P h src dst q t ν fun v s μ=>some (v,s,μ))=opt (cV P h src dst q (ac h.take s) μ fun v s μ=>some (v,s,μ)) fun a=>some (a.1,t,ν):=by
   intro t ν
   rw[rA]
   exact wP hr hq
  have h1:=key (ac h.take s) μ
  rw[hst,bu]at h1
  simp only[Option.some.injEq,Prod.mk.injEq,true_and]at h1
  refine⟨h1.1,h1.2,?_⟩
  rw[key,hst]
  rfl
 ·obtain⟨id,off,len,rfl⟩: ∃id off len,q= .lsl id off len:=by
   cases q<;>first|exact⟨_,_,_,rfl⟩|(exfalso;apply hq;intro _ _ _ hh;cases hh)
  unfold cV at hst ⊢
  simp only[hr]at hst ⊢
  split at hst
  ·split at hst<;>cases hst
  ·rename_i hu
   split at hst
   ·cases hst
   ·rename_i e' hu'
    split at hst<;>try(cases hst;done)
    rename_i hue
    split at hst<;>try(cases hst;done)
    rename_i sz cs hob
    obtain⟨h1,hst⟩:=aJ.1 hst
    obtain⟨l,h2,hst⟩:=ab.1 hst
    simp only[Option.some.injEq,Prod.mk.injEq]at hst
    obtain⟨rfl,rfl,rfl⟩:=hst
    rw[l1.1]at hob
    have hob2:aG (ac h.take t).lam id= .arr sz cs:=by
     rw[l2.1,hc id (by rw[hob];trivial)];exact hob
    refine⟨rfl,rfl,?_⟩
    simp only[hob2]
    exact aJ.2 ⟨h1,ab.2 ⟨l,h2,rfl⟩⟩
   ·cases hst
  ·split at hst
   ·split at hst<;>cases hst
   ·cases hst
  ·cases hst
theorem Lw {c:Call}{fx:Operand}(ho:o.op= .call c)(hc0:c.callee= .value fx)(hp:h.push=false)(ha:Ag h o s t)(hc:dJ (aV h o) s t μ ν)(hst:bf P ρ h o s μ=some (v,s',μ')):Eff P ρ h o (aV h o) s t μ ν v s' μ':=by
 have e1:=ha fx (by simp[ho,Op.operands,Call.operands,hc0])
 have em:c.args.toList.map (evA h t.fr)=c.args.toList.map (evA h s.fr):=List.map_congr_left fun x hx=>ha x (by simp[ho,Op.operands,Call.operands,hc0];right;simpa using hx)
 have l1:=aT h.take s
 have l2:=aT h.take t
 simp only[aV,ho,hc0,hp,dJ]at hc
 simp only[aV,ho,hc0,hp,Eff]
 obtain⟨rfl,hpu⟩:=hc
 have key: ∀(f:FuncId) (args:List LV),(fE P ρ h o.type f args (ac h.take s) ν (fun v s μ=>some (v,s,μ)) fun _ _ _=>none)=some (v,s',μ')→
   s'=ac h.take s∧(fE P ρ h o.type f args (ac h.take t) ν (fun v s μ=>some (v,s,μ)) fun _ _ _=>none)=some (v,ac h.take t,μ'):=by
  intro f args hk
  unfold fE at hk ⊢
  simp only[hp]at hk ⊢
  obtain⟨h1,hk⟩:=aJ.1 hk
  have h1':(!(ac h.take t).pushed&&fk args)=true:=by rw[l2.2,hpu,←l1.2];exact h1
  unfold callK at hk
  obtain⟨out,h2,hk⟩:=ab.1 hk
  cases out with
  |panic pv m=>cases hk
  |ret rv m=>
   dsimp only at hk
   obtain⟨y,h3,_⟩:=ek hk
   simp only[Option.some.injEq,Prod.mk.injEq]at h3
   refine⟨h3.2.1.symm,aJ.2 ⟨h1',?_⟩⟩
   unfold callK
   refine ab.2 ⟨.ret rv m,h2,?_⟩
   dsimp only
   have:(dv P h.own o.type rv fun v=>some (v,ac h.take t,m))=opt (dv P h.own o.type rv fun v=>some (v,ac h.take s,m)) fun q=>some (q.1,ac h.take t,q.2.2):=by
    rw[iq]
    rfl
   rw[this,hk]
   rfl
 simp only[bf,cH,ho,hc0,e1,em]at hst ⊢
 obtain⟨h1,hst⟩:=aJ.1 hst
 revert hst
 generalize evA h s.fr fx=q
 intro hst
 cases q with
 |cv cc=>
  cases cc with
  |clo f caps=>
   obtain⟨k1,k2⟩:=key _ _ hst
   exact⟨k1,aJ.2 ⟨h1,k2⟩⟩
  |_=>cases hst
 |lclo f caps=>
  obtain⟨k1,k2⟩:=key _ _ hst
  exact⟨k1,aJ.2 ⟨h1,k2⟩⟩
 |_=>cases hst
end
end Go.Abs
set_option linter.unusedVariables false
set_option linter.unusedSimpArgs false
namespace Go.Abs
open Go
section
variable {P:Program}{ρ:Rho}{h:OpHint}{o:Oper}{s t s':S}{μ ν μ':Mu}{v:LV}
theorem KN (ha:Ag h o s t)(hc:dJ (aV h o) s t μ ν)(hk:aV h o≠ .all)(hst:bf P ρ h o s μ=some (v,s',μ')):Eff P ρ h o (aV h o) s t μ ν v s' μ':=by
 have pl:aV h o= .plain→(∀t ν,Ag h o s t→cl P ρ h o s t μ ν)→Eff P ρ h o (aV h o) s t μ ν v s' μ':=fun e hp=>by rw[e];exact Jh hp ha hst
 cases ho:o.op with
 |move x=>exact pl (by simp[aV,ho]) fun t ν ha=>EK (.inl ho) ha
 |assign x=>exact pl (by simp[aV,ho]) fun t ν ha=>EK (.inr ho) ha
 |pick c x y=>exact pl (by simp[aV,ho]) fun t ν ha=>O2 ho ha
 |alloc ty=>exact Jg ho hc hst
 |box ty x=>exact Oa ho ha hc hst
 |build ty ps=>exact pl (by simp[aV,ho]) fun t ν ha=>Mx ho ha
 |buildSlice ty len ps=>
  cases hr:h.arr with
  |true=>exact wV ho hr ha hc hst
  |false=>exact pl (by simp[aV,ho,hr]) fun t ν ha=>yE ho hr ha
 |load ty x=>exact Lx ho ha hc hst
 |store ty x y=>exact Ji ho ha hc hst
 |nilCheck x=>exact pl (by simp[aV,ho]) fun t ν ha=>C8 ho ha
 |binOp op ty x y ty'=>exact pl (by simp[aV,ho]) fun t ν ha=>Mw ho ha
 |unOp op ty x=>exact pl (by simp[aV,ho]) fun t ν ha=>O3 ho ha
 |convert src dst x=>
  cases hr:h.arr with
  |true=>exact absurd (by simp[aV,ho,hr]) hk
  |false=>exact B4 ho hr ha hc hst
 |makeInterface ty x=>exact pl (by simp[aV,ho]) fun t ν ha=>uR ho ha
 |makeFunc fn first captured=>exact pl (by simp[aV,ho]) fun t ν ha=>C7 ho ha
 |slice ty x lo hi mx=>exact pl (by simp[aV,ho]) fun t ν ha=>MA ho ha
 |fieldAddr ty x f=>exact pl (by simp[aV,ho]) fun t ν ha=>Ba ho ha
 |field ty x f=>exact pl (by simp[aV,ho]) fun t ν ha=>My ho ha
 |indexAddr ty x y=>exact pl (by simp[aV,ho]) fun t ν ha=>Bb ho ha
 |index ty x y=>exact pl (by simp[aV,ho]) fun t ν ha=>Mz ho ha
 |extract x i=>exact pl (by simp[aV,ho]) fun t ν ha=>Hn ho ha
 |panic x=>exact absurd (by simp[aV,ho]) hk
 |typeAssert x xt ty ok=>exact absurd (by simp[aV,ho]) hk
 |makeMap ty x=>exact absurd (by simp[aV,ho]) hk
 |insert ty m x y=>exact absurd (by simp[aV,ho]) hk
 |mapUpdate ty m x y=>exact absurd (by simp[aV,ho]) hk
 |lookup ty m x ok=>exact absurd (by simp[aV,ho]) hk
 |call c=>
  cases hc0:c.callee with
  |builtin b=>exact pl (by simp[aV,ho,hc0]) fun t ν ha=>Hm ho hc0 ha
  |value fx=>
   cases hp:h.push with
   |true=>exact absurd (by simp[aV,ho,hc0,hp]) hk
   |false=>exact Lw ho hc0 hp ha hc hst
  |invoke r m=>simp[bf,cH,ho,hc0]at hst
 |_=>simp[bf,cH,ho]at hst
end
end Go.Abs
set_option linter.unusedVariables false
set_option linter.unusedSimpArgs false
namespace Go.Abs
open Go
def iX (P:Program)(ρ:Rho)(H:Hints)(rg:Nat)(ops:Array Oper)(i:Nat)(s:S)(μ:Mu):Option (S×Mu):=
  match ops[i]? with
  |none=>none
  |some o=>match o.guard with
    |none=>opt (bf P ρ (H.op rg i) o s μ) fun q=>some (q.2.1.put o.dst q.1,q.2.2)
    |some g=>opt (lS ops g.1) fun d=>opt (fY (s.fr d)) fun q=>match q == some g.2 with
      |true=>opt (bf P ρ (H.op rg i) o s μ) fun q=>some (q.2.1.put o.dst q.1,q.2.2)
      |false=>some (s.put o.dst (.cv (.v Go.undef)),μ)
section
variable {P:Program}{ρ:Rho}{H:Hints}{rg:Nat}{ops:Array Oper}{α:Type}
theorem uO {h:OpHint}(hf:i6 h=true){o:Oper}{s:S}{μ:Mu}{f:LV→S→Mu→Option α}:opK P ρ h o s μ f (fun _ _ _=>none)=opt (bf P ρ h o s μ) fun q=>f q.1 q.2.1 q.2.2:=by
  unfold i6 at hf
  split at hf
  · rename_i h1 h2
    unfold opK
    rw[h1,h2]
    exact Ke
  · cases hf
theorem Kf {i:Nat}{rest:List Nat}(hf:i6 (H.op rg i)=true){s:S}{μ:Mu}{k:S→Mu→Option α}:
    eF P ρ H rg ops (i::rest) s μ k (fun _ _ _=>none)=opt (iX P ρ H rg ops i s μ) fun q=>eF P ρ H rg ops rest q.1 q.2 k fun _ _ _=>none:=by
  simp only[eF,iX]
  cases ops[i]? with
  |none=>rfl
  |some o=>
    dsimp only
    cases o.guard with
    |none=>dsimp only;rw[uO hf,aE];rfl
    |some g=>
      dsimp only
      simp only[aE]
      congr;funext d
      cases hq:fY (s.fr d)with
      |none=>rfl
      |some q=>
       cases q with
       |none=>rfl
       |some b=>
        simp only[bu]
        have hb:=lD hq
        have hd:=fh hb
        obtain⟨j,want⟩:=g
        cases b<;>cases want<;>simp only[cond_true,cond_false,S.set_self s d _ hd,uO hf,aE,bu,beq_self_eq_true]<;>rfl
def gA (P:Program)(ρ:Rho)(H:Hints)(rg:Nat)(ops:Array Oper)(i:Nat)(o:Oper)(s:S)(μ:Mu):Option (LV×S×Mu):=
  match o.guard with
  |none=>bf P ρ (H.op rg i) o s μ
  |some g=>opt (lS ops g.1) fun d=>opt (fY (s.fr d)) fun q=>match q == some g.2 with
    |true=>bf P ρ (H.op rg i) o s μ
    |false=>some (.cv (.v Go.undef),s,μ)
theorem l0 {i:Nat}{o:Oper}(ho:ops[i]? =some o){s:S}{μ:Mu}:iX P ρ H rg ops i s μ=opt (gA P ρ H rg ops i o s μ) fun q=>some (q.2.1.put o.dst q.1,q.2.2):=by
  simp only[iX,gA,ho]
  cases o.guard with
  |none=>rfl
  |some g=>
    dsimp only
    simp only[aE]
    congr;funext d;congr;funext b
    cases b == some g.2<;>rfl
def oW (P:Program)(ρ:Rho)(H:Hints)(rg:Nat)(ops:Array Oper)(i:Nat)(o:Oper)(T:List Nat)(k:Kind)(s t:S)(μ ν:Mu)(v:LV)(s':S)(μ':Mu):Prop:=
  match k with
  | .plain=>s'=ac T s∧μ'=μ∧gA P ρ H rg ops i o t ν=some (v,ac T t,ν)
  | .rd=>s'=ac T s∧μ'=μ∧gA P ρ H rg ops i o t ν=some (v,ac T t,ν)
  | .wr=> ∃lam',s'={ac T s with lam:=lam'}∧μ'=μ∧gA P ρ H rg ops i o t ν=some (v,{ac T t with lam:=lam'},ν)
  | .ap=> ∃ob,s'={ac T s with lam:=s.lam++[ob]}∧μ'=μ∧gA P ρ H rg ops i o t ν=some (v,{ac T t with lam:=t.lam++[ob]},ν)
  | .look=>s'=ac T s∧μ'=μ∧gA P ρ H rg ops i o t ν=some (v,ac T t,ν)
  | .ou=>s'=ac T s∧gA P ρ H rg ops i o t ν=some (v,ac T t,μ')
  | .all=>False
def AgR (ops:Array Oper)(o:Oper)(s t:S):Prop:= ∀u,u∈o.looksAt ops→t.fr u=s.fr u
theorem AgR.ag {o:Oper}{s t:S}(h:AgR ops o s t)(hh:OpHint):Ag hh o s t:=by
  intro x hx
  cases x with
  |tmp u=>
    have hu:u∈o.looksAt ops:=by
      unfold Oper.looksAt
      refine List.mem_append_left _ (List.mem_filterMap.2 ⟨.tmp u,hx,rfl⟩)
    simp only[evA,h u hu]
  |const c=>rfl
  |global g=>rfl
  |func f=>rfl
theorem AgR.guard {o:Oper}{s t:S}(h:AgR ops o s t){g:Nat×Bool}(hg:o.guard=some g){d:Nat}(hd:lS ops g.1=some d):t.fr d=s.fr d:=by
  refine h d ?_
  unfold Oper.looksAt
  refine List.mem_append_right _ ?_
  rw[hg]
  obtain⟨j,b⟩:=g
  simp only[lS]at hd
  cases hj:ops[j]? with
  |none=>rw[hj]at hd;cases hd
  |some oj=>
    rw[hj]at hd
    have hd:oj.dst=some d:=hd
    simp[hj,hd]
theorem zV {i:Nat}{o:Oper}{s t s':S}{μ ν μ':Mu}{v:LV}(ha:AgR ops o s t)(hk:aV (H.op rg i) o≠ .all)(hst:gA P ρ H rg ops i o s μ=some (v,s',μ')):
    ∃T k,(T=(H.op rg i).take∨T=[])∧(k=aV (H.op rg i) o∨k= .plain)∧ ∀t ν,AgR ops o s t→dJ (aV (H.op rg i) o) s t μ ν→oW P ρ H rg ops i o T k s t μ ν v s' μ':=by
  have run:gA P ρ H rg ops i o s μ=bf P ρ (H.op rg i) o s μ→(∀t ν,AgR ops o s t→gA P ρ H rg ops i o t ν=bf P ρ (H.op rg i) o t ν)→
      ∃T k,(T=(H.op rg i).take∨T=[])∧(k=aV (H.op rg i) o∨k= .plain)∧ ∀t ν,AgR ops o s t→dJ (aV (H.op rg i) o) s t μ ν→oW P ρ H rg ops i o T k s t μ ν v s' μ':=by
    intro e1 e2
    rw[e1]at hst
    refine⟨_,_,.inl rfl,.inl rfl,fun t ν ha hc=> ?_⟩
    have:=KN (ha.ag _) hc hk hst
    unfold Eff at this
    unfold oW
    rw[e2 t ν ha]
    revert this hk
    cases aV (H.op rg i) o<;>intro hk this<;>first|exact this|exact absurd rfl hk
  cases hg:o.guard with
  |none=>exact run (by simp only[gA,hg]) fun t ν _=>by simp only[gA,hg]
  |some g=>
    have hst':=hst
    simp only[gA,hg]at hst'
    obtain⟨d,hd,hst'⟩:=ab.1 hst'
    obtain⟨b,hb,hst'⟩:=ab.1 hst'
    cases hbg:b == some g.2 with
    |true=>
      refine run (by simp only[gA,hg,hd,hb,bu,hbg]) fun t ν ha=> ?_
      have:=ha.guard hg hd
      simp only[gA,hg,hd,this,hb,bu,hbg]
    |false=>
      rw[hbg]at hst'
      simp only[Option.some.injEq,Prod.mk.injEq]at hst'
      obtain⟨rfl,rfl,rfl⟩:=hst'
      refine⟨[],.plain,.inr rfl,.inr rfl,fun t ν ha hc=>⟨rfl,rfl,?_⟩⟩
      have:=ha.guard hg hd
      simp only[gA,hg,hd,this,hb,bu,hbg,ac]
def xk (u:Nat):List Nat→LV→LV
  |[],x=>x
  |t::r,x=>xk u r (if u=t then strip x else x)
def phi (T:List Nat)(dst:Option Nat)(v:LV)(u:Nat)(x:LV):LV:=if dst=some u then v else xk u T x
theorem rU: ∀(T:List Nat) (s:S) (u:Nat),(ac T s).fr u=xk u T (s.fr u)
  |[],s,u=>rfl
  |t::r,s,u=>by
    simp only[ac,xk]
    rw[rU r]
    congr 1
    by_cases hu:u=t
    · subst hu;simp only[S.set,gg,if_true]
    · simp only[S.set,fp _ _ hu,if_neg hu]
theorem mi {s':S}{T:List Nat}{s:S}{dst:Option Nat}{v:LV}(h:s'.fr=(ac T s).fr)(u:Nat):(s'.put dst v).fr u=phi T dst v u (s.fr u):=by
  unfold phi
  cases dst with
  |none=>simp only[S.put,h,rU,reduceCtorEq,if_false]
  |some d=>
    by_cases hu:u=d
    · subst hu;simp only[S.put,S.set,gg,if_true]
    · have: ¬(some d=some u):=fun e=>hu (Option.some.inj e).symm
      simp only[S.put,S.set,fp _ _ hu,h,rU,if_neg this]
theorem vX {u:Nat}: ∀{T:List Nat} {x:LV},u ∉ T→xk u T x=x
  |[],x,_=>rfl
  |t::r,x,h=>by
    simp only[List.mem_cons,not_or]at h
    simp only[xk,if_neg h.1]
    exact vX h.2
theorem jp {T:List Nat}{dst:Option Nat}{v:LV}{u:Nat}{x:LV}(h1:dst≠some u)(h2:u ∉ T):phi T dst v u x=x:=by
  unfold phi
  rw[if_neg h1,vX h2]
theorem sI (s:S)(dst:Option Nat)(v:LV):(s.put dst v).lam=s.lam∧(s.put dst v).pushed=s.pushed:=by
  cases dst<;>exact⟨rfl,rfl⟩
end
end Go.Abs
set_option linter.unusedVariables false
set_option linter.unusedSimpArgs false
namespace Go.Abs
open Go
section
variable {P:Program}{ρ:Rho}{H:Hints}{rg:Nat}{ops:Array Oper}
def mq (k:Kind)(s s1:S)(μ μ1:Mu):Prop:=
 s1.pushed=s.pushed∧match k with
 | .plain=>s1.lam=s.lam∧μ1=μ
 | .rd=>s1.lam=s.lam∧μ1=μ
 | .wr=>μ1=μ
 | .ap=>(∃ob,s1.lam=s.lam++[ob])∧μ1=μ
 | .look=>s1.lam=s.lam∧μ1=μ
 | .ou=>s1.lam=s.lam
 | .all=>False
theorem oW.left {i:Nat}{o:Oper}{T:List Nat}{k:Kind}{s t s':S}{μ ν μ':Mu}{v:LV}(h:oW P ρ H rg ops i o T k s t μ ν v s' μ'):mq k s s' μ μ'∧s'.fr=(ac T s).fr:=by
 have l:=aT T s
 unfold oW at h
 unfold mq
 cases k with
 |plain=>obtain⟨rfl,rfl,_⟩:=h;exact⟨⟨l.2,l.1,rfl⟩,rfl⟩
 |rd=>obtain⟨rfl,rfl,_⟩:=h;exact⟨⟨l.2,l.1,rfl⟩,rfl⟩
 |wr=>obtain⟨lam',rfl,rfl,_⟩:=h;exact⟨⟨l.2,rfl⟩,rfl⟩
 |ap=>obtain⟨ob,rfl,rfl,_⟩:=h;exact⟨⟨l.2,⟨ob,rfl⟩,rfl⟩,rfl⟩
 |look=>obtain⟨rfl,rfl,_⟩:=h;exact⟨⟨l.2,l.1,rfl⟩,rfl⟩
 |ou=>obtain⟨rfl,_⟩:=h;exact⟨⟨l.2,l.1⟩,rfl⟩
 |all=>exact h.elim
theorem Iw {kj ki:Kind}(hm:ew kj ki=true∨kj= .plain)(hki:ki≠ .all){s s1:S}{μ μ1:Mu}(h:mq kj s s1 μ μ1):dJ ki s1 s μ1 μ:=by
 unfold mq at h
 obtain⟨hp,h⟩:=h
 cases kj<;>cases ki<;>simp_all [ew,dJ]
theorem Lu {kj ki:Kind}(hm:ew kj ki=true∨ki= .plain)(hkj:kj≠ .all){s t1:S}{μ ν1:Mu}(h:mq ki s t1 μ ν1):dJ kj s t1 μ ν1:=by
 unfold mq at h
 obtain⟨hp,h⟩:=h
 cases kj<;>cases ki<;>simp_all [ew,dJ]
 obtain⟨⟨ob,h1⟩,h2⟩:=h
 intro i hi
 rw[h1]
 exact gT (mN hi)
def Mem (k:Kind)(a b:Lam)(μ ν:Mu)(a' b':Lam)(μ' ν':Mu):Prop:=
 match k with
 | .plain=>a'=a∧b'=b∧μ'=μ∧ν'=ν
 | .rd=>a'=a∧b'=b∧μ'=μ∧ν'=ν
 | .wr=>b'=a'∧μ'=μ∧ν'=ν
 | .ap=>(∃ob,a'=a++[ob]∧b'=b++[ob])∧μ'=μ∧ν'=ν
 | .look=>a'=a∧b'=b∧μ'=μ∧ν'=ν
 | .ou=>a'=a∧b'=b∧ν'=μ'
 | .all=>False
theorem oW.out {i:Nat}{o:Oper}{T:List Nat}{k:Kind}{s t s':S}{μ ν μ':Mu}{v:LV}(h:oW P ρ H rg ops i o T k s t μ ν v s' μ'):
  ∃X ν',gA P ρ H rg ops i o t ν=some (v,X,ν')∧X.fr=(ac T t).fr∧X.pushed=t.pushed∧Mem k s.lam t.lam μ ν s'.lam X.lam μ' ν'∧mq k t X ν ν':=by
 have l:=aT T s
 have l2:=aT T t
 unfold oW at h
 cases k with
 |plain=>obtain⟨rfl,rfl,h⟩:=h;exact⟨_,_,h,rfl,l2.2,⟨l.1,l2.1,rfl,rfl⟩,l2.2,l2.1,rfl⟩
 |rd=>obtain⟨rfl,rfl,h⟩:=h;exact⟨_,_,h,rfl,l2.2,⟨l.1,l2.1,rfl,rfl⟩,l2.2,l2.1,rfl⟩
 |wr=>obtain⟨lam',rfl,rfl,h⟩:=h;exact⟨_,_,h,rfl,l2.2,⟨rfl,rfl,rfl⟩,l2.2,rfl⟩
 |ap=>obtain⟨ob,rfl,rfl,h⟩:=h;exact⟨_,_,h,rfl,l2.2,⟨⟨ob,rfl,rfl⟩,rfl,rfl⟩,l2.2,⟨ob,rfl⟩,rfl⟩
 |look=>obtain⟨rfl,rfl,h⟩:=h;exact⟨_,_,h,rfl,l2.2,⟨l.1,l2.1,rfl,rfl⟩,l2.2,l2.1,rfl⟩
 |ou=>obtain⟨rfl,h⟩:=h;exact⟨_,_,h,rfl,l2.2,⟨l.1,l2.1,rfl⟩,l2.2,l2.1⟩
 |all=>exact h.elim
theorem pF: ∀{a b:List Nat},wU a b=true→ ∀x,x∈a→x ∉ b
 |[],b,_,x,hx=>by simp at hx
 |y::r,b,h,x,hx=>by
  simp only[wU]at h
  split at h
  ·cases h
  ·rename_i hm
   rcases List.mem_cons.1 hx with rfl|hx
   ·intro hb;rw[mR.2 hb]at hm;cases hm
   ·exact pF h x hx
theorem Cg {h:OpHint}{o:Oper}{u:Nat}:u∈gz h o↔o.dst=some u∨u∈h.take:=by
 unfold gz
 cases o.dst with
 |none=>simp
 |some d=>simp[eq_comm]
theorem lV {h:OpHint}{o:Oper}{u:Nat}(hu:u ∉ gz h o){T:List Nat}(hT:T=h.take∨T=[]):o.dst≠some u∧u ∉ T:=by
 rw[Cg,not_or]at hu
 refine⟨hu.1,?_⟩
 rcases hT with rfl|rfl
 ·exact hu.2
 ·simp
theorem BL {kj ki kj' ki':Kind}(h:ew kj ki=true)(hj:kj'=kj∨kj'= .plain)(hi:ki'=ki∨ki'= .plain):ew kj' ki'=true:=by
 rcases hj with e|e<;>rcases hi with e'|e'<;>rw[e,e']<;>cases kj<;>cases ki<;>simp_all [ew]
theorem LR {kj ki:Kind}{l l1 l2 t1 y:Lam}{μ μ1 μ2 ν1 ν2:Mu}(ha:ew kj ki=true)(hb:Mem ki l1 l μ1 μ l2 t1 μ2 ν1)(hc:Mem kj l t1 μ ν1 l1 y μ1 ν2):y=l2∧ν2=μ2:=by
 cases kj<;>cases ki<;>simp only[ew,Bool.false_eq_true]at ha<;>simp only[Mem]at hb hc
 all_goals first
  |(obtain⟨a1,a2,a3,a4⟩:=hb;obtain⟨b1,b2,b3,b4⟩:=hc;subst_vars;exact⟨rfl,rfl⟩)
  |(obtain⟨⟨ob,a1,a2⟩,a3,a4⟩:=hb;obtain⟨b1,b2,b3,b4⟩:=hc;subst_vars;exact⟨rfl,rfl⟩)
  |(obtain⟨a1,a2,a3⟩:=hb;obtain⟨b1,b2,b3,b4⟩:=hc;subst_vars;exact⟨rfl,rfl⟩)
  |(obtain⟨a1,a2,a3,a4⟩:=hb;obtain⟨b1,b2,b3⟩:=hc;subst_vars;exact⟨rfl,rfl⟩)
  |(obtain⟨⟨ob,a1,a2⟩,a3,a4⟩:=hb;obtain⟨⟨ob2,b1,b2⟩,b3,b4⟩:=hc;subst_vars;exact⟨rfl,rfl⟩)
  |(obtain⟨a1,a2,a3⟩:=hb;obtain⟨b1,b2,b3⟩:=hc;subst_vars;exact⟨rfl,rfl⟩)
  |(obtain⟨a1,a2,a3,a4⟩:=hb;obtain⟨⟨ob,b1,b2⟩,b3,b4⟩:=hc;subst_vars;exact⟨rfl,rfl⟩)
  |(obtain⟨a1,a2,a3⟩:=hb;obtain⟨⟨ob,b1,b2⟩,b3,b4⟩:=hc;subst_vars;exact⟨rfl,rfl⟩)
  |(obtain⟨⟨ob,a1,a2⟩,a3,a4⟩:=hb;obtain⟨b1,b2,b3⟩:=hc;subst_vars;exact⟨rfl,rfl⟩)
theorem S4 {i j:Nat}{s s1 s2:S}{μ μ1 μ2:Mu}(hind:sw H rg ops j i=true)(h1:iX P ρ H rg ops j s μ=some (s1,μ1))(h2:iX P ρ H rg ops i s1 μ1=some (s2,μ2)):
  ∃t1 ν1,iX P ρ H rg ops i s μ=some (t1,ν1)∧iX P ρ H rg ops j t1 ν1=some (s2,μ2):=by
 unfold sw at hind
 split at hind<;>try(cases hind;done)
 rename_i oj oi hj hi
 simp only[Bool.and_eq_true]at hind
 obtain⟨⟨⟨d1,d2⟩,d3⟩,hm⟩:=hind
 have hkj:aV (H.op rg j) oj≠ .all:=fun e=>by rw[e]at hm;simp[ew]at hm
 have hki:aV (H.op rg i) oi≠ .all:=fun e=>by rw[e]at hm;revert hm;cases aV (H.op rg j) oj<;>simp[ew]
 rw[l0 hj]at h1
 obtain⟨⟨vj,sj,μj⟩,g1,e1⟩:=ab.1 h1
 simp only[Option.some.injEq,Prod.mk.injEq]at e1
 obtain⟨rfl,rfl⟩:=e1
 rw[l0 hi]at h2
 obtain⟨⟨vi,si,μi⟩,g2,e2⟩:=ab.1 h2
 simp only[Option.some.injEq,Prod.mk.injEq]at e2
 obtain⟨rfl,rfl⟩:=e2
 obtain⟨Tj,kj,hTj,hkj',Ej⟩:=zV (t:=s) (ν:=μ) (fun _ _=>rfl) hkj g1
 obtain⟨Ti,ki,hTi,hki',Ei⟩:=zV (t:=sj.put oj.dst vj) (ν:=μj) (fun _ _=>rfl) hki g2
 have hcond0: ∀k:Kind,dJ k s s μ μ:=fun k=>by cases k<;>simp[dJ]
 obtain⟨Lj,frj⟩:=(Ej s μ (fun _ _=>rfl) (hcond0 _)).left
 have hput:=sI sj oj.dst vj
 have Lj':mq kj s (sj.put oj.dst vj) μ μj:=by
  unfold mq at Lj ⊢
  rw[hput.1,hput.2]
  exact Lj
 have hahead:=BL hm hkj' hki'
 have hag1:AgR ops oi (sj.put oj.dst vj) s:=by
  intro u hu
  have hnw:u ∉ gz (H.op rg j) oj:=fun h=>pF d1 u h hu
  obtain⟨n1,n2⟩:=lV hnw hTj
  rw[mi frj u,jp n1 n2]
 have hc1:dJ (aV (H.op rg i) oi) (sj.put oj.dst vj) s μj μ:=by
  refine Iw ?_ hki Lj'
  rcases hkj' with rfl|rfl
  ·exact .inl hm
  ·exact .inr rfl
 obtain⟨X,ν1,hX,frX,puX,memX,LX⟩:=(Ei s μ hag1 hc1).out
 have hputX:=sI X oi.dst vi
 have LX':mq ki s (X.put oi.dst vi) μ ν1:=by
  unfold mq at LX ⊢
  rw[hputX.1,hputX.2]
  exact LX
 have hag2:AgR ops oj s (X.put oi.dst vi):=by
  intro u hu
  have hnw:u ∉ gz (H.op rg i) oi:=fun h=>pF d3 u h hu
  obtain⟨n1,n2⟩:=lV hnw hTi
  rw[mi frX u,jp n1 n2]
 have hc2:dJ (aV (H.op rg j) oj) s (X.put oi.dst vi) μ ν1:=by
  refine Lu (ki:=ki) ?_ hkj LX'
  rcases hki' with rfl|rfl
  ·exact .inl hm
  ·exact .inr rfl
 obtain⟨Y,ν2,hY,frY,puY,memY,LY⟩:=(Ej _ _ hag2 hc2).out
 refine⟨X.put oi.dst vi,ν1,by rw[l0 hi,hX];rfl,?_⟩
 rw[l0 hj,hY]
 simp only[bu,Option.some.injEq,Prod.mk.injEq]
 have hputY:=sI Y oj.dst vj
 have hputi:=sI si oi.dst vi
 obtain⟨Li,fri⟩:=(Ei _ μj (fun _ _=>rfl) (by cases aV (H.op rg i) oi<;>simp[dJ])).left
 have hmem:Y.lam=si.lam∧ν2=μi∧Y.pushed=si.pushed:=by
  rw[hput.1]at memX
  rw[hputX.1]at memY
  have p1:si.pushed=s.pushed:=by rw[Li.1,hput.2,Lj.1]
  have p2:Y.pushed=s.pushed:=by rw[puY,hputX.2,puX]
  obtain⟨m1,m2⟩:=LR hahead memX memY
  exact⟨m1,m2,by rw[p1,p2]⟩
 refine⟨?_,hmem.2.1⟩
 have hfr: ∀u,(Y.put oj.dst vj).fr u=(si.put oi.dst vi).fr u:=by
  intro u
  rw[mi frY u,mi frX u,mi fri u,mi frj u]
  by_cases hu:u∈gz (H.op rg j) oj
  ·have hnw:=pF d2 u hu
   obtain⟨n1,n2⟩:=lV hnw hTi
   rw[jp n1 n2,jp n1 n2]
  ·obtain⟨n1,n2⟩:=lV hu hTj
   rw[jp n1 n2,jp n1 n2]
 have e1:(Y.put oj.dst vj).fr=(si.put oi.dst vi).fr:=funext hfr
 have e2:(Y.put oj.dst vj).lam=(si.put oi.dst vi).lam:=by rw[hputY.1,hputi.1];exact hmem.1
 have e3:(Y.put oj.dst vj).pushed=(si.put oi.dst vi).pushed:=by rw[hputY.2,hputi.2];exact hmem.2.2
 revert e1 e2 e3
 generalize Y.put oj.dst vj=A
 generalize si.put oi.dst vi=B
 intro e1 e2 e3
 cases A;cases B
 simp only at e1 e2 e3
 rw[e1,e2,e3]
end
end Go.Abs
set_option linter.unusedVariables false
set_option linter.unusedSimpArgs false
namespace Go.Abs
open Go
section
variable {P:Program}{ρ:Rho}{H:Hints}{rg:Nat}{ops:Array Oper}{α:Type}
def mX (P:Program)(ρ:Rho)(H:Hints)(rg:Nat)(ops:Array Oper):List Nat→S→Mu→Option (S×Mu)
 |[],s,μ=>some (s,μ)
 |i::r,s,μ=>opt (iX P ρ H rg ops i s μ) fun q=>mX P ρ H rg ops r q.1 q.2
theorem A9: ∀{l:List Nat} (hf: ∀i∈l,i6 (H.op rg i)=true) {s:S} {μ:Mu} {k:S→Mu→Option α},
  eF P ρ H rg ops l s μ k (fun _ _ _=>none)=opt (mX P ρ H rg ops l s μ) fun q=>k q.1 q.2
 |[],hf,s,μ,k=>by simp only[eF,mX,bu]
 |i::r,hf,s,μ,k=>by
  rw[Kf (hf i (by simp)),mX,aE]
  congr;funext q
  exact A9 fun j hj=>hf j (List.mem_cons_of_mem _ hj)
theorem Np {i:Nat}: ∀{l:List Nat} {s:S} {μ:Mu} {out:S×Mu},l.Pairwise (· < ·)→i∈l→(∀j∈l,j<i→sw H rg ops j i=true)→mX P ρ H rg ops l s μ=some out→
  ∃q,iX P ρ H rg ops i s μ=some q∧mX P ρ H rg ops (l.erase i) q.1 q.2=some out
 |[],s,μ,out,hp,hi,hx,h=>by simp at hi
 |j::r,s,μ,out,hp,hi,hx,h=>by
  simp only[mX]at h
  obtain⟨q,h1,h2⟩:=ab.1 h
  by_cases hji:j=i
  ·subst hji
   exact⟨q,h1,by simpa using h2⟩
  ·have hir:i∈r:=by
    rcases List.mem_cons.1 hi with rfl|h
    ·exact absurd rfl hji
    ·exact h
   rw[List.pairwise_cons]at hp
   obtain⟨p,k1,k2⟩:=Np hp.2 hir (fun k hk hlt=>hx k (List.mem_cons_of_mem _ hk) hlt) h2
   obtain⟨s1,μ1⟩:=q
   obtain⟨s2,μ2⟩:=p
   obtain⟨t1,ν1,m1,m2⟩:=S4 (hx j (by simp) (hp.1 i hir)) h1 k1
   refine⟨(t1,ν1),m1,?_⟩
   rw[List.erase_cons_tail (by simpa using hji)]
   simp only[mX]
   exact ab.2 ⟨_,m2,k2⟩
theorem pt {f:Nat→Bool}: ∀{n:Nat},zH f n=true→ ∀i,i<n→f i=true
 |0,_,i,hi=>by omega
 |n+1,h,i,hi=>by
  simp only[zH]at h
  split at h<;>try(cases h;done)
  rename_i hn
  rcases Nat.lt_or_ge i n with h1|h1
  ·exact pt h i h1
  ·have:i=n:=by omega
   subst this
   exact hn
theorem El {i:Nat}: ∀{l:List Nat},ltB i l=true→ ∀p∈l,p<i
 |[],_,p,hp=>by simp at hp
 |q::r,h,p,hp=>by
  simp only[ltB]at h
  split at h<;>try(cases h;done)
  rename_i hq
  rcases List.mem_cons.1 hp with rfl|hp
  ·simpa[Nat.blt_eq]using hq
  ·exact El h p hp
theorem rx {rows:List (List Nat)}: ∀{l:List Nat} {j:Nat},j∈wh rows l→ ∃p∈l,j=p∨j∈rows.getD p []
 |[],j,h=>by simp[wh]at h
 |p::r,j,h=>by
  simp only[wh,List.mem_cons,List.mem_append]at h
  rcases h with h|h|h
  ·exact⟨p,by simp,.inl h⟩
  ·exact⟨p,by simp,.inr h⟩
  ·obtain⟨q,h1,h2⟩:=rx h
   exact⟨q,List.mem_cons_of_mem _ h1,h2⟩
theorem dA: ∀n,(eN ops n).length=n
 |0=>rfl
 |n+1=>by simp[eN,dA n]
theorem vc {n i:Nat}(h:i<n):(eN ops (n+1)).getD i []=(eN ops n).getD i []:=by
 simp only[eN,List.getD_eq_getElem?_getD]
 rw[List.getElem?_append_left (by rw[dA];exact h)]
def zf (ops:Array Oper)(U:Nat→Prop):Prop:= ∀i,U i→ ∀p∈iv ops i,U p
theorem py {U:Nat→Prop}(hU:zf ops U): ∀{n i j:Nat},i<n→j∈(eN ops n).getD i []→U i→U j∧True
 |0,i,j,hi,_,_=>by omega
 |n+1,i,j,hi,hj,hui=>by
  rcases Nat.lt_or_ge i n with h1|h1
  ·rw[vc h1]at hj
   exact py hU h1 hj hui
  ·have:i=n:=by omega
   subst this
   simp only[eN,List.getD_eq_getElem?_getD]at hj
   rw[List.getElem?_append_right (by rw[dA];exact Nat.le_refl _),dA]at hj
   simp only[Nat.sub_self,List.getElem?_cons_zero,Option.getD_some]at hj
   obtain⟨p,hp,h2⟩:=rx hj
   have hup:=hU i hui p hp
   rcases h2 with rfl|h2
   ·exact⟨hup,trivial⟩
   ·rcases Nat.lt_or_ge p i with h3|h3
    ·exact py hU h3 h2 hup
    ·rw[List.getD_eq_getElem?_getD,List.getElem?_eq_none (by rw[dA];exact h3)]at h2
     simp at h2
theorem Fs {U:Nat→Prop}(hU:zf ops U){n i j:Nat}(hi:i<n)(hp: ∀p∈iv ops i,U p)(hj:j∈(eN ops n).getD i []):U j:=by
 induction n with
 |zero=>omega
 |succ n ih=>
  rcases Nat.lt_or_ge i n with h1|h1
  ·rw[vc h1]at hj
   exact ih h1 hj
  ·have:i=n:=by omega
   subst this
   simp only[eN,List.getD_eq_getElem?_getD]at hj
   rw[List.getElem?_append_right (by rw[dA];exact Nat.le_refl _),dA]at hj
   simp only[Nat.sub_self,List.getElem?_cons_zero,Option.getD_some]at hj
   obtain⟨p,hpp,h2⟩:=rx hj
   have hup:=hp p hpp
   rcases h2 with rfl|h2
   ·exact hup
   ·rcases Nat.lt_or_ge p i with h3|h3
    ·exact(py hU h3 h2 hup).1
    ·rw[List.getD_eq_getElem?_getD,List.getElem?_eq_none (by rw[dA];exact h3)]at h2
     simp at h2
theorem xX {i p:Nat}{o:Oper}(ho:ops[i]? =some o):p∈iv ops i↔ ∃e∈o.after,Region.binds .any e=true∧e.on=p:=by
 simp only[iv,ho,List.mem_map,List.mem_filter,Array.mem_toList_iff]
 constructor
 ·rintro⟨e,⟨h1,h2⟩,h3⟩;exact⟨e,h1,h2,h3⟩
 ·rintro⟨e,h1,h2,h3⟩;exact⟨e,⟨h1,h2⟩,h3⟩
variable {W0:World}{L:Nat}{r:α}{Q:Exit→Act→World→Prop}
theorem Dg (hrho:el P W0 ρ){i:Nat}(hf:i6 (H.op rg i)=true){G:Gh}{w:World}{s s':S}{μ μ':Mu}{a:Act}{n:Nat}{ds:Keep}(hlt: ∀(i:Nat) (o:Oper),ops[i]? =some o→ ∀d,o.dst=some d→d<n∧ds.lets d)
  (hkn:Kn W0 w (ax G w s μ a.tmps)) (hds:ds.at a) (h:iX P ρ H rg ops i s μ=some (s',μ')) (R:Rel G L s μ a.tmps w) (hn:a.tmps.size=n) {K:Act→World→Prop}
  (hK: ∀a' w' G',Rel G' L s' μ' a'.tmps w'→Ext L (ax G w s μ a.tmps) G w G' w' (ax G' w' s' μ' a'.tmps)→a'.tmps.size=n→ds.at a'→K a' w'):wpOp P ops Q i K a w:=by
 unfold wpOp
 simp only[iX]at h
 cases ho:ops[i]? with
 |none=>rw[ho]at h;cases h
 |some o=>
  rw[ho]at h
  simp only at h ⊢
  have hlt': ∀d,o.dst=some d→d<a.tmps.size:=fun d hd=>by rw[hn];exact(hlt i o ho d hd).1
  have hlt2: ∀(i:Nat) (o:Oper),ops[i]? =some o→ ∀d,o.dst=some d→d<a.tmps.size:=fun i o ho d hd=>by rw[hn];exact(hlt i o ho d hd).1
  have run:(opt (bf P ρ (H.op rg i) o s μ) fun q=>some (q.2.1.put o.dst q.1,q.2.2))=some (s',μ')→o.wp P a w K Q:=by
   intro h
   have h2:opK P ρ (H.op rg i) o s μ (fun v s μ=>some (s.put o.dst v,μ)) (fun _ _ _=>none)=some (s',μ'):=by rw[uO hf];exact h
   refine nw (L:=L) (G:=G) (r:=(s',μ')) (k:=fun v s μ=>some (s.put o.dst v,μ)) (p:=fun _ _ _=>none) R hlt' ?_ ?_ hrho hkn h2
   ·intro v s1 μ1 cv w' G' he R' E'
    simp only[Option.some.injEq,Prod.mk.injEq]at he
    obtain⟨rfl,rfl⟩:=he
    exact hK _ w' G' R' E' (by rw[(i7 a o.dst cv).1];exact hn) (Keep.put hds fun d hd=>(hlt i o ho d hd).2)
   ·intro v s1 μ1 pv w' G' he
    cases he
  cases hg:o.guard with
  |none=>
   rw[hg]at h
   have hw:Region.wanted o (yielded ops a.tmps)=true:=by simp[Region.wanted,hg]
   rw[if_pos hw]
   exact .inl (run h)
  |some g=>
   rw[hg]at h
   simp only at h
   obtain⟨d,hd,h⟩:=ab.1 h
   obtain⟨b,hb,h⟩:=ab.1 h
   have hy:yielded ops a.tmps g.1=b:=by
    cases b with
    |none=>exact r9 R hd hlt2 hb
    |some b=>exact wz R hd hlt2 (lD hb)
   obtain⟨j,want⟩:=g
   simp only at hd hy h
   split at h
   ·rename_i hbw
    have hw:Region.wanted o (yielded ops a.tmps)=true:=by
     have:b=some want:=by simpa using hbw
     subst this
     simp[Region.wanted,hg,hy]
    rw[if_pos hw]
    exact .inl (run h)
   ·rename_i hbw
    have hw: ¬Region.wanted o (yielded ops a.tmps)=true:=by
     have: ¬b=some want:=by simpa using hbw
     simp[Region.wanted,hg,hy,this]
    rw[if_neg hw]
    simp only[Option.some.injEq,Prod.mk.injEq]at h
    obtain⟨rfl,rfl⟩:=h
    obtain⟨R2,E2⟩:=R.skip o.dst hlt'
    exact hK _ w G R2 E2 (by rw[(i7 a o.dst undef).1];exact hn) (Keep.put hds fun d hd=>(hlt i o ho d hd).2)
theorem Il (hrho:el P W0 ρ)(hdr:Ak H rg ops=true){T:Nat→Prop}{G0:Gh}{w0:World}{n:Nat}{ds:Keep}{k:S→Mu→Option α}(hlt: ∀(i:Nat) (o:Oper),ops[i]? =some o→ ∀d,o.dst=some d→d<n∧ds.lets d)
  (hkn:Kn W0 w0 T) (hk:EY L G0 w0 T n ds k r Q): ∀(fuel:Nat) {l:List Nat} {listed:Array Bool} {G:Gh} {w:World} {s:S} {μ:Mu} {a:Act},
  l.length≤fuel→listed.size=ops.size→l.Pairwise (· < ·)→(∀i,i∈l↔i<ops.size∧listed.getD i true=false)→zf ops (fun i=>listed.getD i false=true)→
  (opt (mX P ρ H rg ops l s μ) fun q=>k q.1 q.2)=some r→Rel G L s μ a.tmps w→Ext L T G0 w0 G w (ax G w s μ a.tmps)→a.tmps.size=n→ds.at a→
  wpAny P .any ops Q fuel listed a w:=by
 have hok: ∀i,i<ops.size→(∀p∈iv ops i,p<i)∧i6 (H.op rg i)=true∧ ∀j,j<i→j∈(eN ops ops.size).getD i []∨sw H rg ops j i=true:=by
  intro i hi
  have:=pt hdr i hi
  simp only[Bool.and_eq_true]at this
  obtain⟨⟨h1,h2⟩,h3⟩:=this
  refine⟨El h1,h2,fun j hj=> ?_⟩
  have:=pt h3 j hj
  simp only[Bool.or_eq_true]at this
  exact this.imp mR.1 id
 have hnil: ∀{l:List Nat} {listed:Array Bool} {G:Gh} {w:World} {s:S} {μ:Mu} {a:Act},l=[]→(opt (mX P ρ H rg ops l s μ) fun q=>k q.1 q.2)=some r→Rel G L s μ a.tmps w→Ext L T G0 w0 G w (ax G w s μ a.tmps)→a.tmps.size=n→ds.at a→Q .normal a w:=by
  intro l listed G w s μ a hl h R E hn hds
  subst hl
  simp only[mX,bu]at h
  exact hk s μ a w G h R E hn hds
 have hready: ∀{l:List Nat} {listed:Array Bool},listed.size=ops.size→l.Pairwise (· < ·)→(∀i,i∈l↔i<ops.size∧listed.getD i true=false)→Region.ready .any ops listed=[]→l=[]:=by
  intro l listed hsz hp hl hr
  cases l with
  |nil=>rfl
  |cons m rest=>
   exfalso
   rw[List.pairwise_cons]at hp
   obtain⟨hm1,hm2⟩:=(hl m).1 (by simp)
   have:m∈Region.ready .any ops listed:=by
    refine mem_ready.2 ⟨?_,ops[m],by simp[hm1],fun e he hb=> ?_⟩
    ·simp[Array.getD_eq_getD_getElem?,hsz,hm1]at hm2 ⊢; exact hm2
    ·have hpm:e.on∈iv ops m:=(xX (o:=ops[m]) (by simp[hm1])).2 ⟨e,he,hb,rfl⟩
     have hlt:=(hok m hm1).1 _ hpm
     by_cases hle:listed.getD e.on true=false
     ·have:=(hl e.on).2 ⟨by omega,hle⟩
      rcases List.mem_cons.1 this with h|h
      ·omega
      ·have:=hp.1 _ h;omega
     ·have hlt2:e.on<listed.size:=by omega
      simp[Array.getD_eq_getD_getElem?,hlt2]at hle ⊢; exact hle
   rw[hr]at this
   cases this
 intro fuel
 induction fuel with
 |zero=>
  intro l listed G w s μ a hf hsz hp hl hcl h R E hn hds
  have:l=[]:=List.length_eq_zero_iff.1 (by omega)
  refine⟨?_,hnil (listed:=listed) this h R E hn hds⟩
  cases hr:Region.ready .any ops listed with
  |nil=>rfl
  |cons m rest=>
   exfalso
   have hm:m∈Region.ready .any ops listed:=by rw[hr];simp
   obtain⟨h1,o,ho,_⟩:=mem_ready.1 hm
   have hlt:m<ops.size:=(Array.getElem?_eq_some_iff.1 ho).1
   have:=(hl m).2 ⟨hlt,by simp[Array.getD_eq_getD_getElem?,hsz,hlt]at h1 ⊢; exact h1⟩
   subst l
   simp at this
 |succ fuel ih=>
  intro l listed G w s μ a hf hsz hp hl hcl h R E hn hds
  refine⟨fun hr=>hnil (listed:=listed) (hready hsz hp hl hr) h R E hn hds,fun i hi=> ?_⟩
  obtain⟨h1,o,ho,hall⟩:=mem_ready.1 hi
  have hlti:i<ops.size:=(Array.getElem?_eq_some_iff.1 ho).1
  have hun:listed.getD i true=false:=by simp[Array.getD_eq_getD_getElem?,hsz,hlti]at h1 ⊢; exact h1
  have hil:i∈l:=(hl i).2 ⟨hlti,hun⟩
  have hpl: ∀p∈iv ops i,listed.getD p false=true:=by
   intro p hp
   obtain⟨e,he,hb,rfl⟩:=(xX ho).1 hp
   exact hall e he hb
  obtain⟨out,h2,h3⟩:=ab.1 h
  have hind: ∀j∈l,j<i→sw H rg ops j i=true:=by
   intro j hj hji
   rcases(hok i hlti).2.2 j hji with hanc|hx
   ·exfalso
    have hu:=Fs hcl hlti hpl hanc
    obtain⟨hj1,hj2⟩:=(hl j).1 hj
    have hj3:j<listed.size:=by omega
    simp[Array.getD_eq_getD_getElem?,hj3]at hu hj2
    rw[hu]at hj2
    cases hj2
   ·exact hx
  obtain⟨⟨s1,μ1⟩,k1,k2⟩:=Np hp hil hind h2
  refine Dg hrho (hok i hlti).2.1 hlt (hkn.ext E) hds k1 R hn fun a' w' G' R' E' hn' hd'=> ?_
  refine ih (l:=l.erase i) ?_ (by simp[hsz]) (hp.sublist List.erase_sublist) (fun j=> ?_) ?_ (ab.2 ⟨out,k2,h3⟩) R' (E.trans E') hn' hd'
  ·rw[List.length_erase_of_mem hil];omega
  ·have hnd:l.Nodup:=hp.imp fun h=>Nat.ne_of_lt h
   rw[hnd.mem_erase_iff,hl]
   constructor
   ·rintro⟨h1,h2,h3⟩
    exact⟨h2,by rw[getD_set_ne true (Ne.symm h1)];exact h3⟩
   ·rintro⟨h2,h3⟩
    by_cases hji:j=i
    ·subst hji
     simp[Array.getD_eq_getD_getElem?,Array.getElem?_setIfInBounds,hsz,hlti]at h3
    ·exact⟨hji,h2,by rw[getD_set_ne true (Ne.symm hji)]at h3;exact h3⟩
  ·intro j hj p hp
   by_cases hji:j=i
   ·subst hji
    exact getD_set_true (hpl p hp)
   ·rw[getD_set_ne false (Ne.symm hji)]at hj
    exact getD_set_true (hcl j hj p hp)
theorem B3 (hrho:el P W0 ρ)(hm:P.follows .mixedOrders=true)(hdr:Ak H rg ops=true){T:Nat→Prop}{G0 G:Gh}{w0 w:World}{n:Nat}{ds:Keep}{s:S}{μ:Mu}{a:Act}{k:S→Mu→Option α}{id:Nat}
  (hlt: ∀(i:Nat) (o:Oper),ops[i]? =some o→ ∀d,o.dst=some d→d<n∧ds.lets d) (hkn:Kn W0 w0 T) (hk:EY L G0 w0 T n ds k r Q)
  (h:eF P ρ H rg ops (List.range ops.size) s μ k (fun _ _ _=>none)=some r) (R:Rel G L s μ a.tmps w) (E:Ext L T G0 w0 G w (ax G w s μ a.tmps)) (hn:a.tmps.size=n) (hds:ds.at a):
  (Code.region id ops true).wp P Q a w:=by
 refine wp_region_any hm ?_
 rw [A9 fun i hi => by
  have:=pt hdr i (by simpa using hi)
  simp only[Bool.and_eq_true]at this
  exact this.1.2]at h
 obtain⟨R',hO⟩:=R.drew
 refine Il (L:=L) (w:=w.drew) hrho hdr hlt hkn hk ops.size (by simp) (by simp) List.pairwise_lt_range (fun i=> ?_) (fun i hi=> ?_) h R' (E.trans ⟨⟨fun _ _ _ h hb=>⟨h,hb⟩,fun _ _ h=>⟨h,rfl,rfl⟩,fun _ _ _ h hc=>⟨h,hc⟩,fun b cur e fz h=>⟨cur,fz,h,rfl⟩⟩,rfl,rfl,rfl,Nat.le_refl _,fun _ _ _=>⟨rfl,rfl⟩,fun b hb=> .inl ?_,fun _ _=>⟨fun _=>⟨rfl,rfl⟩,rfl⟩⟩) hn hds
 ·simp only[List.mem_range]
  constructor
  ·intro h;exact⟨h,by simp[Array.getD_eq_getD_getElem?,h]⟩
  ·exact fun h=>h.1
 ·exfalso
  simp only[Array.getD_eq_getD_getElem?]at hi
  rcases Nat.lt_or_ge i ops.size with h1|h1
  ·simp[h1]at hi
  ·simp[h1]at hi
 ·rcases hb with⟨l,hb⟩|hb
  ·exact .inl ⟨l,hO l b hb⟩
  ·exact .inr hb
end
end Go.Abs
set_option linter.unusedVariables false
set_option linter.unusedSimpArgs false
namespace Go.Abs
open Go
theorem kK (l:Lam): ∀(n:Nat) (todo acc:List Nat),acc.Nodup→(nC l n todo acc).Nodup
 |0,_,acc,h=>by simpa[nC]using h
 |n+1,[],acc,h=>by simpa[nC]using h
 |n+1,i::todo,acc,h=>by
  simp only[nC]
  split
  ·exact kK l n todo acc h
  ·rename_i hm
   have hni:i ∉ acc:=fun hi=>by rw[mR.2 hi]at hm;cases hm
   have h2:(acc++[i]).Nodup:=by
    rw[List.nodup_append]
    refine⟨h,by simp,fun a ha b hb=> ?_⟩
    simp only[List.mem_singleton]at hb
    subst hb
    exact fun e=>hni (e▸ha)
   split
   ·exact kK l n _ _ h2
   ·exact kK l n _ _ h2
theorem jF: ∀{m:List Nat} {n i j:Nat},nu m n i=some j→n≤j∧m[j-n]? =some i
 |[],n,i,j,h=>by simp[nu]at h
 |a::r,n,i,j,h=>by
  simp only[nu]at h
  split at h
  ·rename_i e
   simp only[Option.some.injEq]at h
   subst h
   have:=Nat.eq_of_beq_eq_true e
   subst this
   simp
  ·obtain⟨h1,h2⟩:=jF h
   refine⟨by omega,?_⟩
   rw[show j-n=(j-(n+1))+1 by omega]
   simpa using h2
def Gh.order (G:Gh)(L:Nat)(m:List Nat):Gh where
 O:=G.O
 β:=fun l j=>if l=L then G.β L (m.getD j 0)else G.β l j
 n:=G.n
 sz:=fun l j=>if l=L then G.sz L (m.getD j 0)else G.sz l j
section
variable {G:Gh}{w:World}{L:Nat}{μ:Mu}{tm:Array Value}{s:S}
theorem Rel.refr (R:Rel G L s μ tm w){fr':Fr}(hf: ∀t,LVR G w L s.lam.length (fr' t) (tm.getD t undef)∧ ∀b,aD (fr' t) (tm.getD t undef) b→aD (s.fr t) (tm.getD t undef) b):
  Rel G L {s with fr:=fr'} μ tm w∧(∀l b,aw G w fr' tm (μ++[s.lam]) l b→aw G w s.fr tm (μ++[s.lam]) l b):=by
 have hown: ∀l b,aw G w fr' tm (μ++[s.lam]) l b→aw G w s.fr tm (μ++[s.lam]) l b:=by
  intro l b h
  cases l with
  |fr t=>exact(hf t).2 b h
  |ob lev i k=>exact h
 exact⟨⟨R.lev,fun t=>(hf t).1,R.lam,R.mu,R.inj,fun l l' b h h'=>R.own l l' b (hown l b h) (hown l' b h'),fun l b lev i h h'=>R.apart l b lev i (hown l b h) h',R.nlt,R.nL,R.ngt⟩,hown⟩
theorem tM (m:List Nat)(h0:G.n L=0):Le G w (G.order L m) w:=by
 refine⟨fun _ _ _ h hb=>⟨h,hb⟩,fun lev i h=> ?_,fun _ _ _ h hc=>⟨h,hc⟩,fun b cur e fz h=>⟨cur,fz,h,rfl⟩⟩
 have hne:lev≠L:=fun e=>by subst e;omega
 simp only[Gh.order,hne,if_false,and_self,and_true]
 exact h
mutual
theorem jV {m:List Nat}{nl:Nat}(h0:G.n L=0): ∀{x y:LV} {v:Value},eU m x=some y→LVR G w L nl x v→LVR (G.order L m) w L m.length y v∧(∀b,aD y v b↔aD x v b)∧((∀xs,x≠ .osl xs)→ ∀xs,y≠ .osl xs)
 | .cv c,y,v,hr,h=>by
  simp only[eU,Option.some.injEq]at hr
  subst hr
  refine⟨?_,fun b=>Iff.rfl,fun _=>by simp⟩
  simp only[LVR]at h ⊢
  exact bk (tM m h0) c v h
 | .osl xs,y,v,hr,h=>by
  simp only[eU,Option.some.injEq]at hr
  subst hr
  refine⟨?_,fun b=>Iff.rfl,fun h=>absurd rfl (h _)⟩
  simp only[LVR]at h ⊢
  exact jw (tM m h0) (fun _ _ _ _=>⟨rfl,rfl⟩) h
 | .loc i off,y,v,hr,h=>by
  simp only[eU]at hr
  obtain⟨j,hj,hr⟩:=ab.1 hr
  simp only[Option.some.injEq]at hr
  subst hr
  obtain⟨_,hm⟩:=jF hj
  simp only[Nat.sub_zero]at hm
  have hlt:j<m.length:=(List.getElem?_eq_some_iff.1 hm).1
  have hgd:m.getD j 0=i:=by rw[List.getD_eq_getElem?_getD,hm];rfl
  simp only[LVR]at h ⊢
  exact⟨⟨hlt,by simp only[Gh.order,if_true,hgd];exact h.2⟩,fun b=>by simp[aD],fun _=>by simp⟩
 | .lsl i off len,y,v,hr,h=>by
  simp only[eU]at hr
  obtain⟨j,hj,hr⟩:=ab.1 hr
  simp only[Option.some.injEq]at hr
  subst hr
  obtain⟨_,hm⟩:=jF hj
  simp only[Nat.sub_zero]at hm
  have hlt:j<m.length:=(List.getElem?_eq_some_iff.1 hm).1
  have hgd:m.getD j 0=i:=by rw[List.getD_eq_getElem?_getD,hm];rfl
  simp only[LVR]at h ⊢
  refine⟨⟨hlt,?_⟩,fun b=>by simp[aD],fun _=>by simp⟩
  simp only[Gh.order,if_true,hgd]
  exact h.2
 | .lclo f caps,y,v,hr,h=>by
  simp only[eU]at hr
  obtain⟨l,hl,hr⟩:=ab.1 hr
  simp only[Option.some.injEq]at hr
  subst hr
  simp only[LVR]at h ⊢
  obtain⟨vs,e,hv⟩:=h
  exact⟨⟨vs,e,nV h0 hl hv⟩,fun b=>by simp[aD],fun _=>by simp⟩
 | .ltup xs,y,v,hr,h=>by
  simp only[eU]at hr
  obtain⟨l,hl,hr⟩:=ab.1 hr
  simp only[Option.some.injEq]at hr
  subst hr
  simp only[LVR]at h ⊢
  obtain⟨vs,e,hv⟩:=h
  exact⟨⟨vs,e,nV h0 hl hv⟩,fun b=>by simp[aD],fun _=>by simp⟩
 | .mloc i,y,v,hr,h=>by
  simp only[eU]at hr
  obtain⟨j,hj,hr⟩:=ab.1 hr
  simp only[Option.some.injEq]at hr
  subst hr
  obtain⟨_,hm⟩:=jF hj
  simp only[Nat.sub_zero]at hm
  have hlt:j<m.length:=(List.getElem?_eq_some_iff.1 hm).1
  have hgd:m.getD j 0=i:=by rw[List.getD_eq_getElem?_getD,hm];rfl
  simp only[LVR]at h ⊢
  exact⟨⟨hlt,by simp only[Gh.order,if_true,hgd];exact h.2⟩,fun b=>by simp[aD],fun _=>by simp⟩
 | .tloc i t n,y,v,hr,h=>by
  simp only[eU]at hr
  obtain⟨j,hj,hr⟩:=ab.1 hr
  simp only[Option.some.injEq]at hr
  subst hr
  obtain⟨_,hm⟩:=jF hj
  simp only[Nat.sub_zero]at hm
  have hlt:j<m.length:=(List.getElem?_eq_some_iff.1 hm).1
  have hgd:m.getD j 0=i:=by rw[List.getD_eq_getElem?_getD,hm];rfl
  simp only[LVR]at h ⊢
  exact⟨⟨hlt,by simp only[Gh.order,if_true,hgd];exact h.2⟩,fun b=>by simp[aD],fun _=>by simp⟩
theorem nV {m:List Nat}{nl:Nat}(h0:G.n L=0): ∀{xs ys:List LV} {vs:List Value},dZ m xs=some ys→bR G w L nl xs vs→bR (G.order L m) w L m.length ys vs
 |[],ys,vs,hr,h=>by
  simp only[dZ,Option.some.injEq]at hr
  subst hr
  simpa[bR]using h
 |x::xs,ys,vs,hr,h=>by
  simp only[dZ]at hr
  obtain⟨y,h1,hr⟩:=ab.1 hr
  obtain⟨l,h2,hr⟩:=ab.1 hr
  simp only[Option.some.injEq]at hr
  subst hr
  simp only[bR]at h ⊢
  obtain⟨v,vr,e,h3,h4,h5⟩:=h
  obtain⟨k1,k2,k3⟩:=jV h0 h1 h4
  exact⟨v,vr,e,k3 h3,k1,nV h0 h2 h5⟩
end
theorem nU {m:List Nat}: ∀{xs ys:List LV},dZ m xs=some ys→ys.length=xs.length∧ ∀(j:Nat) y,ys[j]? =some y→ ∃x,xs[j]? =some x∧eU m x=some y
 |[],ys,h=>by simp only[dZ,Option.some.injEq]at h;subst h;exact⟨rfl,fun j y hy=>by simp at hy⟩
 |x::xs,ys,h=>by
  simp only[dZ]at h
  obtain⟨y,h1,h⟩:=ab.1 h
  obtain⟨r,h2,h⟩:=ab.1 h
  simp only[Option.some.injEq]at h
  subst h
  obtain⟨h3,h4⟩:=nU h2
  refine⟨by simp[h3],fun j z hz=> ?_⟩
  cases j with
  |zero=>simp only[List.getElem?_cons_zero,Option.some.injEq]at hz;subst hz;exact⟨x,rfl,h1⟩
  |succ j=>exact h4 j z (by simpa using hz)
inductive ObRen (m:List Nat):Ob→Ob→Prop where
 |dead:ObRen m .dead .dead
 |arr {sz cs}:ObRen m (.arr sz cs) (.arr sz cs)
 |map {ks vs}:ObRen m (.map ks vs) (.map ks vs)
 |cells {cs ds}:dZ m cs=some ds→ObRen m (.cells cs) (.cells ds)
theorem gk {m:List Nat}: ∀{l l':List Ob},dT m l=some l'→l'.length=l.length∧ ∀i,ObRen m (aG l i) (aG l' i)
 |[],l',h=>by simp only[dT,Option.some.injEq]at h;subst h;exact⟨rfl,fun i=>by simp only[aG,List.getElem?_nil];exact .dead⟩
 | .dead::l,l',h=>by
  simp only[dT]at h
  obtain⟨r,h1,h⟩:=ab.1 h
  simp only[Option.some.injEq]at h
  subst h
  obtain⟨h2,h3⟩:=gk h1
  refine⟨by simp[h2],fun i=> ?_⟩
  cases i with
  |zero=>exact .dead
  |succ i=>exact h3 i
 | .arr sz cs::l,l',h=>by
  simp only[dT]at h
  obtain⟨r,h1,h⟩:=ab.1 h
  simp only[Option.some.injEq]at h
  subst h
  obtain⟨h2,h3⟩:=gk h1
  refine⟨by simp[h2],fun i=> ?_⟩
  cases i with
  |zero=>exact .arr
  |succ i=>exact h3 i
 | .map ks vs::l,l',h=>by
  simp only[dT]at h
  obtain⟨r,h1,h⟩:=ab.1 h
  simp only[Option.some.injEq]at h
  subst h
  obtain⟨h2,h3⟩:=gk h1
  refine⟨by simp[h2],fun i=> ?_⟩
  cases i with
  |zero=>exact .map
  |succ i=>exact h3 i
 | .cells cs::l,l',h=>by
  simp only[dT]at h
  obtain⟨ds,h0,h⟩:=ab.1 h
  obtain⟨r,h1,h⟩:=ab.1 h
  simp only[Option.some.injEq]at h
  subst h
  obtain⟨h2,h3⟩:=gk h1
  refine⟨by simp[h2],fun i=> ?_⟩
  cases i with
  |zero=>exact .cells h0
  |succ i=>exact h3 i
theorem ObRen.live {m:List Nat}{o o':Ob}(h:ObRen m o o'):aK o'↔aK o:=by cases h<;>exact Iff.rfl
theorem Jy {m:List Nat}{l:Lam}{j:Nat}(h:aK (aG (m.map (aG l)) j)):j<m.length∧aG (m.map (aG l)) j=aG l (m.getD j 0):=by
 have hj:=mN h
 simp only[List.length_map]at hj
 refine⟨hj,?_⟩
 have e:(m.map (aG l))[j]? =some (aG l (m.getD j 0)):=by
  rw[List.getElem?_map,List.getElem?_eq_getElem hj,List.getD_eq_getElem?_getD,List.getElem?_eq_getElem hj]
  rfl
 simp only[aG,e]
theorem Rel.reorder (R:Rel G L s μ tm w)(hp:s.pushed=false){m:List Nat}(hm:m.Nodup){fr':Fr}{l':Lam}(hf: ∀t,eU m (s.fr t)=some (fr' t))(hl:dT m (m.map (aG s.lam))=some l'):
  Rel (G.order L m) L {fr:=fr',lam:=l',pushed:=false} μ tm w∧Ext L (ax G w s μ tm) G w (G.order L m) w (ax (G.order L m) w {fr:=fr',lam:=l',pushed:=false} μ tm):=by
 have hμ:=R.lev
 have h0:G.n L=0:=by have:=R.nL;rw[hp]at this;simpa using this
 have hle:Le G w (G.order L m) w:=tM m h0
 obtain⟨hll,hlg⟩:=gk hl
 have hll':l'.length=m.length:=by rw[hll];simp
 have eL: ∀i,aC (μ++[s.lam]) L i=aG s.lam i:=fun i=>by rw[←hμ];exact bY
 have eL': ∀i,aC (μ++[l']) L i=aG l' i:=fun i=>by rw[←hμ];exact bY
 have hβ: ∀lev i,lev≠L→(G.order L m).β lev i=G.β lev i:=fun lev i h=>by simp[Gh.order,h]
 have hβL: ∀j,(G.order L m).β L j=G.β L (m.getD j 0):=fun j=>by simp[Gh.order]
 have hlv: ∀j,aK (aG l' j)→j<m.length∧aK (aG s.lam (m.getD j 0))∧ObRen m (aG s.lam (m.getD j 0)) (aG l' j):=by
  intro j h
  have h1:=(hlg j).live.1 h
  obtain⟨h2,h3⟩:=Jy h1
  have h4:=hlg j
  rw[h3]at h1 h4
  exact⟨h2,h1,h4⟩
 have hlive: ∀lev i,aK (aC (μ++[l']) lev i)→(lev<L∧aC (μ++[l']) lev i=aC (μ++[s.lam]) lev i∧(G.order L m).β lev i=G.β lev i∧aK (aC (μ++[s.lam]) lev i))∨
   (lev=L∧i<m.length∧aK (aC (μ++[s.lam]) L (m.getD i 0))∧(G.order L m).β lev i=G.β L (m.getD i 0)∧ObRen m (aG s.lam (m.getD i 0)) (aG l' i)):=by
  intro lev i h
  rcases cG (s:={fr:=fr',lam:=l',pushed:=false}) hμ h with⟨h1,h2⟩|⟨rfl,h1,h2⟩
  ·have e:aC (μ++[l']) lev i=aC (μ++[s.lam]) lev i:=by rw[aC,aC,bC (by omega),bC (by omega)]
   exact .inl ⟨h1,e,hβ lev i (by omega),by rw[←e];exact h⟩
  ·have h':aK (aG l' i):=by rw[←eL'];exact h
   obtain⟨a1,a2,a3⟩:=hlv i h'
   exact .inr ⟨rfl,a1,by rw[eL];exact a2,hβL i,a3⟩
 have hown: ∀q b,aw (G.order L m) w fr' tm (μ++[l']) q b→(∃t,q= .fr t∧aw G w s.fr tm (μ++[s.lam]) q b)∨(∃lev i k,q= .ob lev i k∧lev<L∧aw G w s.fr tm (μ++[s.lam]) q b)∨
   (∃i k,q= .ob L i k∧i<m.length∧aw G w s.fr tm (μ++[s.lam]) (.ob L (m.getD i 0) k) b):=by
  intro q b h
  cases q with
  |fr t=>exact .inl ⟨t,rfl,((jV h0 (hf t) (R.fr t)).2.1 b).1 h⟩
  |ob lev i k=>
   have hl':=fu h
   rcases hlive lev i hl' with⟨h1,h2,h3,_⟩|⟨rfl,h1,h2,h3,h4⟩
   ·exact .inr (.inl ⟨lev,i,k,rfl,h1,gZ (fr':=fr') (tm':=tm) h2 h3 rfl h⟩)
   ·refine .inr (.inr ⟨i,k,rfl,h1,?_⟩)
    simp only[aw,eL',h3]at h
    split at h<;>try(exact h.elim)
    rename_i ds hds
    split at h<;>try(exact h.elim)
    rename_i y hy
    obtain⟨cur,e',fz,hb,ho⟩:=h
    rw[hds]at h4
    generalize hq:aG s.lam (m.getD i 0)=q at h4
    cases h4 with
    |cells hr=>
     obtain⟨_,hg⟩:=nU hr
     obtain⟨x,hx,hxy⟩:=hg k y hy
     have hob:=R.lam (m.getD i 0)
     rw[hq]at hob
     simp only[ObR]at hob
     obtain⟨cur2,e2,fz2,hb2,_,_,_,hrr⟩:=hob
     rw[hb2]at hb
     obtain⟨rfl,rfl,rfl⟩:=(Obj.cells.injEq ..).mp (Option.some.inj hb)
     simp only[aw,eL,hq,hx]
     exact⟨cur2,e2,fz2,hb2,((jV h0 hxy (hrr k x hx)).2.1 b).1 ho⟩
 have hget: ∀{i j:Nat},i<m.length→j<m.length→m.getD i 0=m.getD j 0→i=j:=by
  intro i j hi hj e
  rw[List.getD_eq_getElem?_getD,List.getD_eq_getElem?_getD,List.getElem?_eq_getElem hi,List.getElem?_eq_getElem hj]at e
  exact(List.getElem_inj hm).1 (by simpa using e)
 have hsz: ∀j,(G.order L m).sz L j=G.sz L (m.getD j 0):=fun j=>by simp[Gh.order]
 refine⟨⟨hμ,fun t=> ?_,fun i=> ?_,fun lev i hlt=> ?_,fun lev i lev' i' h h' e=> ?_,fun q q' b h h'=> ?_,fun q b lev i h h' e=> ?_,R.nlt,?_,R.ngt⟩,⟨hle,rfl,rfl,rfl,Nat.le_refl _,fun _ _ _=>⟨rfl,rfl⟩,fun b hb=> .inl ?_,fun l hlt=>⟨fun i=> ?_,rfl⟩⟩⟩
 ·simp only[hll']
  exact(jV h0 (hf t) (R.fr t)).1
 ·simp only[hll',hβL,hsz]
  by_cases hd:aK (aG l' i)
  ·obtain⟨_,_,hr⟩:=hlv i hd
   have hob:=R.lam (m.getD i 0)
   revert hob hr
   generalize aG s.lam (m.getD i 0)=q
   generalize aG l' i=q'
   intro hr hob
   cases hr with
   |dead=>trivial
   |arr=>
    simp only[ObR]at hob ⊢
    obtain⟨hk,cur,e,fz,h1,h2,h3,h4,h5⟩:=hob
    exact⟨hk,cur,e,fz,h1,h2,h3,h4,fun j x hx=>bk hle x _ (h5 j x hx)⟩
   |map=>
    simp only[ObR]at hob ⊢
    obtain⟨es,clk,h1,h2,h3⟩:=hob
    exact⟨es,clk,h1,h2,kT hle h3⟩
   |cells hrr=>
    obtain⟨hln,hg⟩:=nU hrr
    simp only[ObR]at hob ⊢
    obtain⟨cur,e,fz,h1,h2,h3,h4,h5⟩:=hob
    refine⟨cur,e,fz,h1,h2,h3,by rw[hln];exact h4,fun j y hy=> ?_⟩
    obtain⟨x,hx,hxy⟩:=hg j y hy
    exact(jV h0 hxy (h5 j x hx)).1
  ·generalize hq:aG l' i=q at hd
   cases q with
   |dead=>trivial
   |cells=>exact absurd trivial hd
   |arr=>exact absurd trivial hd
   |map=>exact absurd trivial hd
 ·have hne:lev≠L:=by omega
  rw[hβ lev i hne,show (G.order L m).sz lev i=G.sz lev i by simp[Gh.order,hne]]
  exact cU (hle.below lev) (Nat.le_refl _) (fun _ h=>by omega) (fun _=>⟨rfl,rfl⟩) (fun _ _ _ _ _ _ _ _ _ _ _=>⟨rfl,rfl⟩) (R.mu lev i hlt)
 ·rcases hlive lev i h with⟨h1,_,h3,h4⟩|⟨rfl,h1,h2,h3,_⟩<;>rcases hlive lev' i' h' with⟨h1',_,h3',h4'⟩|⟨rfl,h1',h2',h3',_⟩
  ·rw[h3,h3']at e;exact R.inj lev i lev' i' h4 h4' e
  ·rw[h3,h3']at e;have:=(R.inj _ _ _ _ h4 h2' e).1;omega
  ·rw[h3,h3']at e;have:=(R.inj _ _ _ _ h2 h4' e).1;omega
  ·rw[h3,h3']at e
   exact⟨rfl,hget h1 h1' (R.inj _ _ _ _ h2 h2' e).2⟩
 ·rcases hown q b h with⟨t,rfl,h1⟩|⟨lev,i,k,rfl,hlt,h1⟩|⟨i,k,rfl,hi,h1⟩<;>rcases hown q' b h' with⟨t',rfl,h1'⟩|⟨lev',i',k',rfl,hlt',h1'⟩|⟨i',k',rfl,hi',h1'⟩
  ·exact R.own _ _ b h1 h1'
  ·exact R.own _ _ b h1 h1'
  ·have:=R.own _ _ b h1 h1';cases this
  ·exact R.own _ _ b h1 h1'
  ·exact R.own _ _ b h1 h1'
  ·have:=R.own _ _ b h1 h1';injection this with a1 a2 a3;omega
  ·have:=R.own _ _ b h1 h1';cases this
  ·have:=R.own _ _ b h1 h1';injection this with a1 a2 a3;omega
  ·have:=R.own _ _ b h1 h1'
   injection this with a1 a2 a3
   rw[hget hi hi' a2,a3]
 ·have hlv': ∃lev2 i2,aK (aC (μ++[s.lam]) lev2 i2)∧G.β lev2 i2=b:=by
   rcases hlive lev i h' with⟨h1,_,h3,h4⟩|⟨rfl,h1,h2,h3,_⟩
   ·exact⟨lev,i,h4,by rw[←h3];exact e⟩
   ·exact⟨_,_,h2,by rw[←h3];exact e⟩
  obtain⟨lev2,i2,h2,e2⟩:=hlv'
  rcases hown q b h with⟨t,rfl,h1⟩|⟨lev,i,k,rfl,hlt,h1⟩|⟨i,k,rfl,hi,h1⟩
  ·exact R.apart _ b lev2 i2 h1 h2 e2
  ·exact R.apart _ b lev2 i2 h1 h2 e2
  ·exact R.apart _ b lev2 i2 h1 h2 e2
 ·simp only[Bool.false_eq_true,if_false]
  exact h0
 ·rcases hb with⟨q,hb⟩|⟨lev,i,hb,e⟩
  ·rcases hown q b hb with⟨t,rfl,h1⟩|⟨lev,i,k,rfl,hlt,h1⟩|⟨i,k,rfl,hi,h1⟩
   ·exact .inl ⟨_,h1⟩
   ·exact .inl ⟨_,h1⟩
   ·exact .inl ⟨_,h1⟩
  ·rcases hlive lev i hb with⟨h1,_,h3,h4⟩|⟨rfl,h1,h2,h3,_⟩
   ·exact .inr ⟨lev,i,h4,by rw[←h3];exact e⟩
   ·exact .inr ⟨_,_,h2,by rw[←h3];exact e⟩
 ·have hne:l≠L:=by omega
  simp[Gh.order,hne]
theorem JM {mo nl:Nat}{x y:LV}{v:Value}(h:yW mo x=some y)(hx:LVR G w L nl x v):LVR G w L nl y v∧ ∀b,aD y v b→aD x v b:=by
 unfold yW at h
 split at h
 ·simp only[Option.some.injEq]at h
  subst h
  exact⟨jb hx,fun b hb=>absurd hb ie⟩
 ·obtain⟨xs,h1,h2⟩:=ab.1 h
  simp only[Option.some.injEq]at h2
  subst h2
  exact il h1 hx
 ·obtain⟨xs,h1,h2⟩:=ab.1 h
  simp only[Option.some.injEq]at h2
  subst h2
  exact⟨by simp only[LVR];exact fS h1 hx,fun b hb=>by simp[aD]at hb⟩
theorem AE {fr:Fr}: ∀{live:List (Nat×Nat)} {vs:List LV},ru fr live=some vs→ ∀t,dL (iF (live.map Prod.fst) vs) t= .cv .undef∨ ∃mo y,yW mo (fr t)=some y∧dL (iF (live.map Prod.fst) vs) t=y
 |[],vs,h,t=>by simp only[ru,Option.some.injEq]at h;subst h;exact .inl rfl
 |q::r,vs,h,t=>by
  simp only[ru]at h
  obtain⟨v,h1,h⟩:=ab.1 h
  obtain⟨l,h2,h⟩:=ab.1 h
  simp only[Option.some.injEq]at h
  subst h
  simp only[List.map_cons,iF,dL]
  split
  ·rename_i e
   have:=Nat.eq_of_beq_eq_true e
   subst this
   exact .inr ⟨q.2,v,h1,rfl⟩
  ·exact AE h2 t
theorem we {m:List Nat}: ∀{ts:List Nat} {vs us:List LV},dZ m vs=some us→ ∀t,eU m (dL (iF ts vs) t)=some (dL (iF ts us) t)
 |[],vs,us,h,t=>by simp[iF,dL,eU]
 |u::ts,[],us,h,t=>by simp only[dZ,Option.some.injEq]at h;subst h;simp[iF,dL,eU]
 |u::ts,v::vs,us,h,t=>by
  simp only[dZ]at h
  obtain⟨y,h1,h⟩:=ab.1 h
  obtain⟨l,h2,h⟩:=ab.1 h
  simp only[Option.some.injEq]at h
  subst h
  simp only[iF,dL]
  split
  ·exact h1
  ·exact we h2 t
theorem Rel.weaken (R:Rel G L s μ tm w){i:Nat}{cs cs':List LV}(ho:aG s.lam i= .cells cs)(hl:cs'.length=cs.length)
  (hc: ∀(k:Nat) x',cs'[k]? =some x'→ ∃x,cs[k]? =some x∧ ∀v,LVR G w L s.lam.length x v→LVR G w L s.lam.length x' v∧ ∀b,aD x' v b→aD x v b):
  Rel G L {s with lam:=s.lam.set i (.cells cs')} μ tm w∧Ext L (ax G w s μ tm) G w G w (ax G w {s with lam:=s.lam.set i (.cells cs')} μ tm):=by
 have hμ:=R.lev
 have hi:i<s.lam.length:=mN (by rw[ho];trivial)
 have eL: ∀(l:Lam) j,aC (μ++[l]) L j=aG l j:=fun l j=>by rw[←hμ];exact bY
 have hlam: ∀j,aG (s.lam.set i (.cells cs')) j=if j=i then .cells cs' else aG s.lam j:=by
  intro j
  simp only[aG]
  by_cases e:j=i
  ·subst e;rw[List.getElem?_set_self hi];simp
  ·rw[List.getElem?_set_ne (by omega)];simp[e]
 have hlt: ∀lev j,lev<L→aC (μ++[s.lam.set i (.cells cs')]) lev j=aC (μ++[s.lam]) lev j:=fun lev j h=>by rw[aC,aC,bC (by omega),bC (by omega)]
 have hgt: ∀(l:Lam) lev j,L<lev→aC (μ++[l]) lev j= .dead:=fun l lev j h=>by rw[aC,oD (by omega)]
 have hlive: ∀lev j,aK (aC (μ++[s.lam.set i (.cells cs')]) lev j)→aK (aC (μ++[s.lam]) lev j):=by
  intro lev j h
  rcases Nat.lt_trichotomy lev L with h1|h1|h1
  ·rw[hlt lev j h1]at h;exact h
  ·subst h1
   rw[eL,hlam]at h
   rw[eL]
   split at h
   ·rename_i e;rw[e,ho];trivial
   ·exact h
  ·rw[hgt _ lev j h1]at h;exact h.elim
 have hob:=R.lam i
 rw[ho]at hob
 simp only[ObR]at hob
 obtain⟨cur,e,fz,h1,h2,h3,h4,h5⟩:=hob
 have hown: ∀q b,aw G w s.fr tm (μ++[s.lam.set i (.cells cs')]) q b→aw G w s.fr tm (μ++[s.lam]) q b:=by
  intro q b h
  cases q with
  |fr t=>exact h
  |ob lev j k=>
   simp only[aw]at h ⊢
   rcases Nat.lt_trichotomy lev L with h6|h6|h6
   ·rw[hlt lev j h6]at h;exact h
   ·subst h6
    rw[eL,hlam]at h
    rw[eL]
    by_cases ej:j=i
    ·subst ej
     simp only[if_true]at h
     split at h<;>try(exact h.elim)
     rename_i x' hx'
     obtain⟨x,hx,hv⟩:=hc k x' hx'
     obtain⟨cur2,e2,fz2,hb2,ho2⟩:=h
     rw[h1]at hb2
     obtain⟨rfl,rfl,rfl⟩:=(Obj.cells.injEq ..).mp (Option.some.inj hb2)
     rw[ho]
     simp only[hx]
     exact⟨cur,e,fz,h1,(hv _ (h5 k x hx)).2 b ho2⟩
    ·rw[if_neg ej]at h;exact h
   ·rw[hgt _ lev j h6]at h;exact h.elim
 refine⟨⟨hμ,fun t=> ?_,fun j=> ?_,R.mu,fun lev j lev' j' h h'=>R.inj lev j lev' j' (hlive lev j h) (hlive lev' j' h'),fun q q' b h h'=>R.own q q' b (hown q b h) (hown q' b h'),fun q b lev j h h'=>R.apart q b lev j (hown q b h) (hlive lev j h'),R.nlt,?_,R.ngt⟩,Ext.refl G w fun b hb=> ?_⟩
 ·simp only[List.length_set];exact R.fr t
 ·simp only[List.length_set]
  rw[hlam]
  split
  ·rename_i ej
   subst ej
   simp only[ObR]
   refine⟨cur,e,fz,h1,h2,h3,by rw[hl];exact h4,fun k x' hx'=> ?_⟩
   obtain⟨x,hx,hv⟩:=hc k x' hx'
   exact(hv _ (h5 k x hx)).1
  ·exact R.lam j
 ·simp only[List.length_set];exact R.nL
 ·rcases hb with⟨q,hb⟩|⟨lev,j,hb,e⟩
  ·exact .inl ⟨q,hown q b hb⟩
  ·exact .inr ⟨lev,j,hlive lev j hb,e⟩
theorem re {α:Type}{nl:Nat}: ∀{ms:List Nat} {cs:List LV} {k:List LV→Option α} {r:α},fC ms cs k=some r→
  ∃cs',k cs'=some r∧cs'.length=cs.length∧ ∀(j:Nat) x',cs'[j]? =some x'→ ∃x,cs[j]? =some x∧ ∀v,LVR G w L nl x v→LVR G w L nl x' v∧ ∀b,aD x' v b→aD x v b
 |[],cs,k,r,h=>⟨cs,h,rfl,fun j x hx=>⟨x,hx,fun v hv=>⟨hv,fun _ hb=>hb⟩⟩⟩
 |m::ms,[],k,r,h=>by simp[fC]at h
 |m::ms,c::cs,k,r,h=>by
  simp only[fC,yQ]at h
  have key: ∀c',(fC ms cs fun r=>k (c'::r))=some r→(∀v,LVR G w L nl c v→LVR G w L nl c' v∧ ∀b,aD c' v b→aD c v b)→
    ∃cs',k cs'=some r∧cs'.length=(c::cs).length∧ ∀(j:Nat) x',cs'[j]? =some x'→ ∃x,(c::cs)[j]? =some x∧ ∀v,LVR G w L nl x v→LVR G w L nl x' v∧ ∀b,aD x' v b→aD x v b:=by
   intro c' h hc
   obtain⟨cs',h1,h2,h3⟩:=re h
   refine⟨c'::cs',h1,by simp[h2],fun j x' hx'=> ?_⟩
   cases j with
   |zero=>simp only[List.getElem?_cons_zero,Option.some.injEq]at hx';subst hx';exact⟨c,rfl,hc⟩
   |succ j=>exact h3 j x' (by simpa using hx')
  split at h
  ·exact key c h fun v hv=>⟨hv,fun _ hb=>hb⟩
  ·obtain⟨xs,h1,h2⟩:=ab.1 h
   exact key _ h2 fun v hv=>il h1 hv
  ·obtain⟨x,h1,h2⟩:=ab.1 h
   exact key _ h2 fun v hv=>⟨by simp only[LVR];exact eH h1 hv,fun b hb=>by simp[aD]at hb⟩
  ·obtain⟨xs,h1,h2⟩:=ab.1 h
   exact key _ h2 fun v hv=>⟨by simp only[LVR];exact fS h1 hv,fun b hb=>by simp[aD]at hb⟩
theorem Rel.setPushed (R:Rel G L s μ tm w):Rel (G.push L s.lam.length) L {s with pushed:=true} μ tm w∧
  Ext L (ax G w s μ tm) G w (G.push L s.lam.length) w (ax (G.push L s.lam.length) w {s with pushed:=true} μ tm):=by
 have hle:Le G w (G.push L s.lam.length) w:=j1 fun i h=>by
  have:=R.nL
  cases hp:s.pushed<;>simp[hp]at this<;>omega
 have hbel: ∀lev,lev<L→(G.push L s.lam.length).below lev=G.below lev:=by
  intro lev h
  simp only[Gh.below,Gh.push,Gh.mk.injEq,true_and,and_true]
  funext l
  by_cases hl:l≤lev
  ·simp only[hl,if_true]
   rw[if_neg (by omega)]
  ·simp only[hl,if_false]
 have hO: ∀q b,aw (G.push L s.lam.length) w s.fr tm (μ++[s.lam]) q b→aw G w s.fr tm (μ++[s.lam]) q b:=by
  intro q b h
  cases q<;>exact h
 refine ⟨⟨R.lev, fun t => df hle (Nat.le_refl _) (fun i _ => ⟨rfl, rfl⟩) _ _ (fun b _ => ⟨rfl, rfl⟩) (R.fr t), fun i => ?_, fun lev i h => ?_, R.inj,
  fun q q' b h h'=>R.own q q' b (hO q b h) (hO q' b h'),fun q b lev i h h'=>R.apart q b lev i (hO q b h) h',fun lev h=> ?_,?_,fun lev h=> ?_⟩,?_⟩
 ·exact cU hle (Nat.le_refl _) (fun i _=>⟨rfl,rfl⟩) (fun _=>⟨rfl,rfl⟩) (fun _ _ _ _ _ _ _ _ _ _ _=>⟨rfl,rfl⟩) (R.lam i)
 ·rw[hbel lev h];exact R.mu lev i h
 ·simp only[Gh.push];rw[if_neg (by omega)];exact R.nlt lev h
 ·simp[Gh.push]
 ·simp only[Gh.push];rw[if_neg (by omega)];exact R.ngt lev h
 ·refine⟨hle,rfl,rfl,rfl,Nat.le_refl _,fun _ _ _=>⟨rfl,rfl⟩,fun b hb=> .inl ?_,fun l hl=>⟨fun _=>⟨rfl,rfl⟩,?_⟩⟩
  ·rcases hb with⟨q,hb⟩|hb
   ·exact .inl ⟨q,hO q b hb⟩
   ·exact .inr hb
  ·simp only[Gh.push];rw[if_neg (by omega)]
theorem jS {α:Type}: ∀{obs:List (Nat×List Nat)} {G:Gh} {s:S} {k:S→Option α} {r:α},kn obs s k=some r→Rel G L s μ tm w→
  ∃s' G',k s'=some r∧Rel G' L s' μ tm w∧Ext L (ax G w s μ tm) G w G' w (ax G' w s' μ tm)
 |[],G,s,k,r,h,R=>⟨s,G,h,R,Ext.refl G w fun _ hb=>hb⟩
 |q::l,G,s,k,r,h,R=>by
  simp only[kn]at h
  split at h
  ·obtain⟨R1,E1⟩:=R.setPushed
   obtain⟨s',G',h4,R2,E2⟩:=jS h R1
   exact⟨s',G',h4,R2,E1.trans E2⟩
  split at h<;>try(simp at h;done)
  rename_i cs ho
  obtain⟨cs',h1,h2,h3⟩:=re (G:=G) (w:=w) (L:=L) (nl:=s.lam.length) h
  obtain⟨R1,E1⟩:=R.weaken ho h2 h3
  obtain⟨s',G',h4,R2,E2⟩:=jS h1 R1
  exact⟨s',G',h4,R2,E1.trans E2⟩
theorem dG {α:Type}{live:List (Nat×Nat)}{k:S→Option α}{r:α}(h:dF live s k=some r)(R:Rel G L s μ tm w):
  ∃s' G',k s'=some r∧Rel G' L s' μ tm w∧Ext L (ax G w s μ tm) G w G' w (ax G' w s' μ tm):=by
 unfold dF at h
 obtain⟨vs,h1,h⟩:=ab.1 h
 obtain⟨R1,hO⟩:=R.refr (fr':=dL (iF (live.map Prod.fst) vs)) fun t=>by
  rcases AE h1 t with e|⟨mo,y,h2,e⟩
  ·rw[e];exact⟨by simp[LVR,VR],fun b hb=>by simp[aD]at hb⟩
  ·rw[e];exact JM h2 (R.fr t)
 have E1:Ext L (ax G w s μ tm) G w G w (ax G w {s with fr:=dL (iF (live.map Prod.fst) vs)} μ tm):=Ext.refl G w fun b hb=>by
  rcases hb with⟨l,hb⟩|hb
  ·exact .inl ⟨l,hO l b hb⟩
  ·exact .inr hb
 split at h
 ·exact⟨_,G,h,R1,E1⟩
 ·rename_i hp
  obtain⟨us,h2,h⟩:=ab.1 h
  obtain⟨l,h3,h⟩:=ab.1 h
  obtain⟨R2,E2⟩:=R1.reorder hp (kK _ _ _ _ (by simp)) (we h2) h3
  exact⟨_,_,h,R2,E1.trans E2⟩
theorem ky {x y:Bool}(h:(match x with|true=>y|false=>false)=true):x=true∧y=true:=by
 cases x<;>simp_all
theorem vt {m:Nat}:Le (G.cut L) w ((G.cut L).push L m) w:=j1 fun i h=>by simp[Gh.cut]at h
theorem K5 {m:Nat}(hg: ∀lev,L<lev→G.n lev=0){c:CV}{v:Value}(hb:ww L m c=true)(h:VR G w c v):VR ((G.cut L).push L m) w c v:=by
 have key: ∀c:CV,below L c=true→VR G w c v→VR ((G.cut L).push L m) w c v:=fun c hb h=>bk vt _ _ (dV c v hb h)
 cases c with
 |ref lev i off=>
  simp only[VR]at h ⊢
  refine⟨?_,h.2⟩
  simp only[Gh.push,Gh.cut]
  simp only[ww]at hb
  split at hb
  ·rename_i hl
   have hl:lev<L:=by simpa using hl
   rw[if_neg (by omega),if_pos hl]
   exact h.1
  ·rename_i hl
   have hl: ¬lev<L:=fun h=>by rw[←Nat.blt_eq]at h;rw[h]at hl;cases hl
   have:lev=L:=by
    rcases Nat.lt_or_ge L lev with h1|h1
    ·have:=hg lev h1;omega
    ·omega
   rw[if_pos this]
   simpa using hb
 |tref lev i t n=>
  simp only[VR]at h ⊢
  refine⟨?_,h.2⟩
  simp only[Gh.push,Gh.cut]
  simp only[ww]at hb
  split at hb
  ·rename_i hl
   have hl:lev<L:=by simpa using hl
   rw[if_neg (by omega),if_pos hl]
   exact h.1
  ·rename_i hl
   have hl: ¬lev<L:=fun h=>by rw[←Nat.blt_eq]at h;rw[h]at hl;cases hl
   have:lev=L:=by
    rcases Nat.lt_or_ge L lev with h1|h1
    ·have:=hg lev h1;omega
    ·omega
   rw[if_pos this]
   simpa using hb
 |_=>exact key _ hb h
mutual
theorem qz {m nl:Nat}(hg: ∀lev,L<lev→G.n lev=0): ∀(x:LV) (v:Value),ia L m x=true→LVR G w L nl x v→LVR ((G.cut L).push L m) w L m x v
 | .cv c,v,hb,h=>by
  simp only[LVR]at h ⊢
  exact K5 hg hb h
 | .osl xs,v,hb,h=>by
  simp only[LVR]at h ⊢
  have:=xx (m:=L) hb h
  rcases this with h|⟨b,cap,cur,e,s,h1,h2,h3,h4,h5,h6,h7,h8,h9,h10⟩
  ·exact .inl h
  ·exact .inr ⟨b,cap,cur,e,s,h1,h2,h3,h4,h5,h6,h7,dW vt b s 0 xs h8,h9,h10⟩
 | .loc i off,v,hb,h=>by
  simp only[LVR]at h ⊢
  exact⟨by simpa[ia]using hb,h.2⟩
 | .lsl i off len,v,hb,h=>by
  simp only[LVR]at h ⊢
  exact⟨by simpa[ia]using hb,h.2⟩
 | .mloc i,v,hb,h=>by
  simp only[LVR]at h ⊢
  exact⟨by simpa[ia]using hb,h.2⟩
 | .tloc i t n,v,hb,h=>by
  simp only[LVR]at h ⊢
  exact⟨by simpa[ia]using hb,h.2⟩
 | .lclo f caps,v,hb,h=>by
  simp only[LVR]at h ⊢
  obtain⟨vs,e,hl⟩:=h
  exact⟨vs,e,u6 hg caps _ (by simpa[ia]using hb) hl⟩
 | .ltup xs,v,hb,h=>by simp[ia]at hb
theorem u6 {m nl:Nat}(hg: ∀lev,L<lev→G.n lev=0): ∀(xs:List LV) (vs:List Value),iS L m xs=true→bR G w L nl xs vs→bR ((G.cut L).push L m) w L m xs vs
 |[],vs,hb,h=>by simpa[bR]using h
 |x::xs,vs,hb,h=>by
  simp only[bR]at h ⊢
  simp only[iS]at hb
  obtain⟨hb1,hb2⟩:=ky hb
  obtain⟨v,r,e,h0,h1,h2⟩:=h
  exact⟨v,r,e,h0,qz hg x v hb1 h1,u6 hg xs r hb2 h2⟩
end
theorem wx {m:Nat}: ∀{xs:List LV} {j:Nat} {x:LV},iS L m xs=true→xs[j]? =some x→ia L m x=true
 |[],j,x,hb,h=>by simp at h
 |y::ys,j,x,hb,h=>by
  simp only[iS]at hb
  obtain⟨hb1,hb2⟩:=ky hb
  cases j with
  |zero=>simp only[List.getElem?_cons_zero,Option.some.injEq]at h;subst h;exact hb1
  |succ j=>exact wx hb2 (by simpa using h)
theorem vh {m:Nat}: ∀{xs:List CV} {j:Nat} {x:CV},ck m xs=true→xs[j]? =some x→below m x=true
 |[],j,x,hb,h=>by simp at h
 |y::ys,j,x,hb,h=>by
  obtain⟨hb1,hb2⟩:=bd hb
  cases j with
  |zero=>simp only[List.getElem?_cons_zero,Option.some.injEq]at h;subst h;exact hb1
  |succ j=>exact vh hb2 (by simpa using h)
theorem r5 {m:Nat}: ∀{xs:List Ob} {j:Nat} {x:Ob},m3 L m xs=true→xs[j]? =some x→xu L m x=true
 |[],j,x,hb,h=>by simp at h
 |y::ys,j,x,hb,h=>by
  simp only[m3]at hb
  obtain⟨hb1,hb2⟩:=ky hb
  cases j with
  |zero=>simp only[List.getElem?_cons_zero,Option.some.injEq]at h;subst h;exact hb1
  |succ j=>exact r5 hb2 (by simpa using h)
theorem H1 {m nl b sz:Nat}(hg: ∀lev,L<lev→G.n lev=0){o:Ob}(hb:xu L m o=true)(h:ObR G w L nl b sz o):ObR ((G.cut L).push L m) w L m b sz o:=by
 cases o with
 |dead=>trivial
 |cells cs=>
  simp only[ObR]at h ⊢
  obtain⟨cur,e,fz,h1,h2,h3,h4,h5⟩:=h
  exact⟨cur,e,fz,h1,h2,h3,h4,fun j x hx=>qz hg x _ (wx hb hx) (h5 j x hx)⟩
 |arr k cs=>
  simp only[ObR]at h ⊢
  obtain⟨hk,cur,e,fz,h1,h2,h3,h4,h5⟩:=h
  exact⟨hk,cur,e,fz,h1,h2,h3,h4,fun j x hx=>bk vt _ _ (dV x _ (vh hb hx) (h5 j x hx))⟩
 |map ks vs=>
  simp only[ObR]at h ⊢
  obtain⟨es,clk,h1,h2,h3⟩:=h
  exact⟨es,clk,h1,h2,h3.1,fW vt _ _ (oe vs _ hb h3.2)⟩
theorem Rel.trunc (R:Rel G L s μ tm w)(hp:s.pushed=true){m:Nat}(hm:m≤s.lam.length)(hf: ∀t,ia L m (s.fr t)=true)(hl:m3 L m (s.lam.take m)=true):
  Rel ((G.cut L).push L m) L {s with lam:=s.lam.take m} μ tm w∧(∀b,ax ((G.cut L).push L m) w {s with lam:=s.lam.take m} μ tm b→ax G w s μ tm b):=by
 have hμ:=R.lev
 have hlen:(s.lam.take m).length=m:=by simp;omega
 have eL: ∀(l:Lam) j,aC (μ++[l]) L j=aG l j:=fun l j=>by rw[←hμ];exact bY
 have hlt: ∀lev j,lev<L→aC (μ++[s.lam.take m]) lev j=aC (μ++[s.lam]) lev j:=fun lev j h=>by rw[aC,aC,bC (by omega),bC (by omega)]
 have hgt: ∀(l:Lam) lev j,L<lev→aC (μ++[l]) lev j= .dead:=fun l lev j h=>by rw[aC,oD (by omega)]
 have hlam: ∀i,aG (s.lam.take m) i=if i<m then aG s.lam i else .dead:=by
  intro i
  by_cases h:i<m
  ·rw[if_pos h];simp only[aG,List.getElem?_take_of_lt h]
  ·rw[if_neg h];simp only[aG];rw[List.getElem?_take_eq_none (by omega)]
 have hat: ∀lev i,aC (μ++[s.lam.take m]) lev i=aC (μ++[s.lam]) lev i∨aC (μ++[s.lam.take m]) lev i= .dead:=by
  intro lev i
  rcases Nat.lt_trichotomy lev L with h|h|h
  ·exact .inl (hlt lev i h)
  ·subst h
   rw[eL,eL,hlam]
   split
   ·exact .inl rfl
   ·exact .inr rfl
  ·exact .inr (hgt _ lev i h)
 have hlive: ∀lev i,aK (aC (μ++[s.lam.take m]) lev i)→aK (aC (μ++[s.lam]) lev i):=by
  intro lev i h
  rcases hat lev i with e|e
  ·rw[←e];exact h
  ·rw[e]at h;exact h.elim
 have hown: ∀q b,aw ((G.cut L).push L m) w s.fr tm (μ++[s.lam.take m]) q b→aw G w s.fr tm (μ++[s.lam]) q b:=by
  intro q b h
  cases q with
  |fr t=>exact h
  |ob lev i k=>
   rcases hat lev i with e|e
   ·simp only[aw]at h ⊢
    rw[e]at h
    exact h
   ·simp only[aw,e]at h
 have hbel: ∀lev,lev<L→((G.cut L).push L m).below lev=G.below lev:=by
  intro lev h
  simp only[Gh.below,Gh.push,Gh.cut,Gh.mk.injEq,true_and,and_true]
  funext l
  by_cases hl:l≤lev
  ·simp only[hl,if_true]
   rw[if_neg (by omega),if_pos (by omega)]
  ·simp only[hl,if_false]
 refine ⟨⟨R.lev, fun t => ?_, fun i => ?_, fun lev i h => ?_, fun lev i lev' i' h h' e => R.inj lev i lev' i' (hlive _ _ h) (hlive _ _ h') e,
  fun q q' b h h'=>R.own q q' b (hown q b h) (hown q' b h'),fun q b lev i h h'=>R.apart q b lev i (hown q b h) (hlive _ _ h'),fun lev h=> ?_,?_,fun lev h=> ?_⟩,fun b hb=> ?_⟩
 ·show LVR _ w L (s.lam.take m).length _ _
  rw[hlen]
  exact qz R.ngt _ _ (hf t) (R.fr t)
 ·show ObR _ w L (s.lam.take m).length _ _ (aG (s.lam.take m) i)
  rw[hlen,hlam]
  split
  ·rename_i hi
   refine H1 R.ngt (r5 (j:=i) hl ?_) (R.lam i)
   rw[List.getElem?_take_of_lt hi,aG,List.getElem?_eq_getElem (by omega)]
  ·trivial
 ·rw[hbel lev h];exact R.mu lev i h
 ·simp only[Gh.push,Gh.cut];rw[if_neg (by omega),if_pos h];exact R.nlt lev h
 ·show ((G.cut L).push L m).n L=if s.pushed then(s.lam.take m).length else 0
  rw[hp,hlen];simp[Gh.push]
 ·simp only[Gh.push,Gh.cut];rw[if_neg (by omega),if_neg (by omega)]
 ·rcases hb with⟨q,hb⟩|⟨lev,i,hb,e⟩
  ·exact .inl ⟨q,hown q b hb⟩
  ·exact .inr ⟨lev,i,hlive lev i hb,e⟩
theorem wn {fr:Fr}{m:Nat}: ∀{live:List (Nat×Nat)},iS L m (wy (e8 fr live))=true→ ∀t,(dL (e8 fr live) t= .cv .undef∨dL (e8 fr live) t=fr t)∧ia L m (dL (e8 fr live) t)=true
 |[],hb,t=>⟨.inl rfl,rfl⟩
 |q::r,hb,t=>by
  simp only[e8,wy,iS]at hb
  obtain⟨hb1,hb2⟩:=ky hb
  simp only[e8,dL]
  split
  ·rename_i e
   have:=Nat.eq_of_beq_eq_true e
   subst this
   exact⟨.inr rfl,hb1⟩
  ·exact wn hb2 t
theorem mZ {α:Type}{live:List (Nat×Nat)}{k:S→Option α}{r:α}(h:iQ L live s k=some r)(R:Rel G L s μ tm w){T:Nat→Prop}{G0:Gh}{w0:World}(E:Ext L T G0 w0 G w (ax G w s μ tm))(h0:G0.n L=0):
  ∃s' G',k s'=some r∧Rel G' L s' μ tm w∧Ext L T G0 w0 G' w (ax G' w s' μ tm):=by
 unfold iQ at h
 split at h
 ·exact⟨s,G,h,R,E⟩
 ·rename_i m hm
  obtain⟨hc,h⟩:=aJ.1 h
  simp only[Bool.and_eq_true]at hc
  obtain⟨⟨⟨hp,hlen⟩,hu⟩,ho⟩:=hc
  have hsl:=wn (fr:=s.fr) hu
  obtain⟨R1,hO⟩:=R.refr (fr':=dL (e8 s.fr live)) fun t=>by
   rcases(hsl t).1 with e|e
   ·rw[e];exact⟨by simp[LVR,VR],fun b hb=>by simp[aD]at hb⟩
   ·rw[e];exact⟨R.fr t,fun _ hb=>hb⟩
  obtain⟨R2,hT⟩:=R1.trunc hp (Nat.le_of_ble_eq_true hlen) (fun t=>(hsl t).2) ho
  have e:({fr:=dL (e8 s.fr live),lam:=s.lam.take m,pushed:=true}:S)={s with fr:=dL (e8 s.fr live),lam:=s.lam.take m}:=by
   cases s;simp only at hp;subst hp;rfl
  rw[e]at h
  refine⟨_,_,h,R2,⟨⟨E.le.map,fun lev i hi=> ?_,E.le.imm,E.le.blk⟩,E.os,E.tape,E.output,E.size,E.keep,fun b hb=>E.grow b ?_,fun l hl=>⟨(E.lev l hl).1,?_⟩⟩⟩
  ·obtain⟨h1,h2,h3⟩:=E.le.ref lev i hi
   refine⟨?_,h2,h3⟩
   rcases Nat.lt_trichotomy lev L with hl|hl|hl
   ·simp only[Gh.push,Gh.cut];rw[if_neg (by omega),if_pos hl];exact h1
   ·subst hl;omega
   ·have:=R.ngt lev hl;omega
  ·have:=hT b hb
   rcases this with⟨q,hb⟩|hb
   ·exact .inl ⟨q,hO q b hb⟩
   ·exact .inr hb
  ·simp only[Gh.push,Gh.cut];rw[if_neg (by omega),if_pos hl];exact(E.lev l hl).2
end
end Go.Abs
set_option linter.unusedVariables false
set_option linter.unusedSimpArgs false
namespace Go.Abs
open Go
def gC (L:Nat)(T:Nat→Prop)(G:Gh)(w:World)(n:Nat)(ds:Keep)(s:S)(μ:Mu)(a:Act)(w':World)(G':Gh):Prop:=
 Rel G' L s μ a.tmps w'∧Ext L T G w G' w' (ax G' w' s μ a.tmps)∧a.tmps.size=n∧ds.at a∧G.n L=0
def StR (L:Nat)(T:Nat→Prop)(G:Gh)(w:World)(n:Nat)(ds:Keep):St→Exit→Act→World→Prop
 | .norm s μ,.normal,a,w'=> ∃G',gC L T G w n ds s μ a w' G'
 | .exit i s μ,.exit j,a,w'=>i=j∧ ∃G',gC L T G w n ds s μ a w' G'
 | .ret s μ,.ret,a,w'=> ∃G',gC L T G w n ds s μ a w' G'
 | .panic v s μ,.panic ch,a,w'=> ∃G' pv,ch=[{v:=pv,recovered:=false}]∧VR G' w' v pv∧gC L T G w n ds s μ a w' G'
 |_,_,_,_=>False
def o2 (P:Program)(c:Code)(Q:Exit→Act→World→Prop)(a:Act)(w:World):Prop:=
 ∀(b:Frame) (k:List Item) (cs:List Frame),∃e a' w',Q e a' w'∧Arrives P (lone (b.at a (.code c:: .inLoop c::k)) cs w) b k cs e a' w'
def j2 (P:Program)(W0:World)(ρ:Rho):Prop:= ∀H lv c s μ st,ρ.loop H lv c s μ=some st→ ∀L G w a Q T G0 w0 n (ds:Keep),dB n ds.slot c=true→Kn W0 w0 T→gC L T G0 w0 n ds s μ a w G→
 (∀e a' w',StR L T G0 w0 n ds st e a' w'→Q e a' w')→o2 P c Q a w
def mt (P:Program)(W0:World)(ρ:Rho):Prop:= ∀H lv c s μ st,ρ.seg H lv c s μ=some st→ ∀L G w a Q T G0 w0 n (ds:Keep),dB n ds.slot c=true→Kn W0 w0 T→gC L T G0 w0 n ds s μ a w G→
 (∀e a' w',StR L T G0 w0 n ds st e a' w'→Q e a' w')→c.wp P Q a w
section
variable {P:Program}{W0:World}{ρ:Rho}{Q:Exit→Act→World→Prop}{a:Act}{w:World}{c:Code}
theorem o2.wp (h:o2 P c Q a w):(Code.loop c).wp P Q a w:=by
 intro b k cs
 obtain⟨e,a',w',hq,harr⟩:=h b k cs
 exact⟨e,a',w',hq,.of_steps (.one step_loop) harr⟩
theorem o2.unroll (h:c.wp P (Exit.then (o2 P c Q) Q) a w):o2 P c Q a w:=by
 intro b k cs
 obtain⟨e,a₁,w₁,hq,harr⟩:=h b (.inLoop c::k) cs
 cases e with
 |normal=>
  obtain⟨e₂,a₂,w₂,hq₂,harr₂⟩:=hq b k cs
  exact⟨e₂,a₂,w₂,hq₂,.of_steps (Steps.trans harr (.one step_inLoop)) harr₂⟩
 |exit id=>exact⟨_,a₁,w₁,hq,.pass (x:= .inLoop c) rfl (fun _ _=> .inl (by simp)) harr⟩
 |goto l=>exact⟨_,a₁,w₁,hq,.pass (x:= .inLoop c) rfl (fun _ _=> .inl (by simp)) harr⟩
 |ret=>exact⟨_,a₁,w₁,hq,.pass (x:= .inLoop c) rfl (fun _ _=> .inl (by simp)) harr⟩
 |panic ch=>exact⟨_,a₁,w₁,hq,.pass (x:= .inLoop c) rfl (fun _ _=> .inl (by simp)) harr⟩
 |outgrown=>exact⟨_,a₁,w₁,hq,.pass (x:= .inLoop c) rfl (fun _ _=> .inl (by simp)) harr⟩
theorem dr (hm:P.follows .mixedOrders=true)(hrho:el P W0 ρ)(hloop:j2 P W0 ρ)(hseg:mt P W0 ρ){H:Hints}: ∀(c:Code) {α:Type} {k:St→Option α} {r:α} {Q:Exit→Act→World→Prop} {L:Nat} {T:Nat→Prop} {G0 G:Gh} {w0 w:World} {n:Nat} {ds:Keep} {s:S} {μ:Mu} {a:Act},
  dB n ds.slot c=true→Kn W0 w0 T→bM P ρ H c s μ k=some r→gC L T G0 w0 n ds s μ a w G→(∀st e a' w',k st=some r→StR L T G0 w0 n ds st e a' w'→Q e a' w')→c.wp P Q a w
 | .skip,α,k,r,Q,L,T,G0,G,w0,w,n,ds,s,μ,a,hc,hkn,h,hs,hk=>by
  simp only[bM]at h
  exact wp_skip (hk _ _ _ _ h ⟨G,hs⟩)
 | .region id ops draw,α,k,r,Q,L,T,G0,G,w0,w,n,ds,s,μ,a,hc,hkn,h,hs,hk=>by
  simp only[bM]at h
  simp only[dB]at hc
  obtain⟨R,E,hn,hd,h0⟩:=hs
  split at h
  ·refine wp_region (gc (L:=L) (G0:=G0) (w0:=w0) (T:=T) (n:=n) (ds:=ds) hrho (fun i o ho d hd=>jT hc (by simpa using ho) d hd) hkn ?_ ?_ _ h R E hn hd)
   ·intro s' μ' a' w' G' h' R' E' hn' hd'
    exact hk _ .normal a' w' h' ⟨G',R',E',hn',hd',h0⟩
   ·intro v s' μ' pv a' w' G' h' R' hv E' hn' hd'
    exact hk _ (.panic _) a' w' h' ⟨G',pv,rfl,hv,R',E',hn',hd',h0⟩
  ·obtain⟨hdr,h⟩:=aJ.1 h
   refine B3 (L:=L) (G0:=G0) (w0:=w0) (T:=T) (n:=n) (ds:=ds) hrho hm hdr (fun i o ho d hd=>jT hc (by simpa using ho) d hd) hkn ?_ h R E hn hd
   intro s' μ' a' w' G' h' R' E' hn' hd'
   exact hk _ .normal a' w' h' ⟨G',R',E',hn',hd',h0⟩
 | .seq x y,α,k,r,Q,L,T,G0,G,w0,w,n,ds,s,μ,a,hc,hkn,h,hs,hk=>by
  simp only[bM]at h
  simp only[dB]at hc
  obtain⟨hx,hy⟩:=ky hc
  refine wp_seq (dr hm hrho hloop hseg x hx hkn h hs fun st e a' w' h' hst=> ?_)
  cases st with
  |norm s' μ'=>
   cases e<;>simp only[StR]at hst
   obtain⟨G',hs'⟩:=hst
   dsimp only at h'
   split at h'
   ·exact dr hm hrho hloop hseg y hy hkn h' hs' hk
   ·obtain⟨s1,G1,h1,R1,E1⟩:=jS h' hs'.1
    obtain⟨s2,G2,h2,R2,E2⟩:=dG h1 R1
    obtain⟨s3,G3,h2,R3,E3⟩:=mZ (R2.lev▸h2) R2 (hs'.2.1.trans (E1.trans E2)) hs'.2.2.2.2
    obtain⟨st,hst,h3⟩:=ab.1 h2
    exact hseg _ _ _ _ _ _ hst L G3 w' a' Q T G0 w0 n ds hy hkn ⟨R3,E3,hs'.2.2⟩ fun e a' w' hr=>hk st e a' w' h3 hr
  |exit i s' μ'=>cases e<;>first|exact hst.elim|exact hk _ _ _ _ h' hst
  |ret s' μ'=>cases e<;>first|exact hst.elim|exact hk _ _ _ _ h' hst
  |panic v s' μ'=>cases e<;>first|exact hst.elim|exact hk _ _ _ _ h' hst
 | .cond cc x y,α,k,r,Q,L,T,G0,G,w0,w,n,ds,s,μ,a,hc,hkn,h,hs,hk=>by
  simp only[bM]at h
  simp only[dB]at hc
  obtain⟨hx,hy⟩:=ky hc
  obtain⟨b,hb,h⟩:=ab.1 h
  have hv:=cx (a:=a) hs.1 (fh hb)
  simp only[VR]at hv
  refine wp_cond hv ?_
  cases b with
  |true=>exact dr hm hrho hloop hseg x hx hkn h hs hk
  |false=>exact dr hm hrho hloop hseg y hy hkn h hs hk
 | .block id x,α,k,r,Q,L,T,G0,G,w0,w,n,ds,s,μ,a,hc,hkn,h,hs,hk=>by
  simp only[bM]at h
  simp only[dB]at hc
  refine wp_block (dr hm hrho hloop hseg x hc hkn h hs fun st e a' w' h' hst=> ?_)
  cases st with
  |norm s' μ'=>cases e<;>first|exact hst.elim|exact hk _ _ _ _ h' hst
  |exit i s' μ'=>
   cases e<;>first|exact hst.elim|skip
   simp only[StR]at hst
   obtain⟨rfl,hs'⟩:=hst
   simp only[Exit.inBlock]
   dsimp only at h'
   split at h'
   ·rename_i he
    rw[if_pos (Nat.eq_of_beq_eq_true he)]
    exact hk _ .normal _ _ h' hs'
   ·rename_i he
    rw[if_neg fun e=>by subst e;simp[Nat.beq_refl]at he]
    exact hk _ (.exit i) _ _ h' ⟨rfl,hs'⟩
  |ret s' μ'=>cases e<;>first|exact hst.elim|exact hk _ _ _ _ h' hst
  |panic v s' μ'=>cases e<;>first|exact hst.elim|exact hk _ _ _ _ h' hst
 | .loop x,α,k,r,Q,L,T,G0,G,w0,w,n,ds,s,μ,a,hc,hkn,h,hs,hk=>by
  simp only[bM]at h
  simp only[dB]at hc
  obtain⟨s1,G1,h1,R1,E1⟩:=jS h hs.1
  obtain⟨s',G',h',R',E'⟩:=dG h1 R1
  obtain⟨s3,G3,h',R3,E3⟩:=mZ (R'.lev▸h') R' (hs.2.1.trans (E1.trans E')) hs.2.2.2.2
  obtain⟨st,hst,h'⟩:=ab.1 h'
  exact(hloop _ _ _ _ _ _ hst L G3 w a Q T G0 w0 n ds hc hkn ⟨R3,E3,hs.2.2⟩ fun e a' w' hr=>hk st e a' w' h' hr).wp
 | .exit id,α,k,r,Q,L,T,G0,G,w0,w,n,ds,s,μ,a,hc,hkn,h,hs,hk=>by
  simp only[bM]at h
  exact wp_exit (hk _ (.exit id) _ _ h ⟨rfl,G,hs⟩)
 | .ret,α,k,r,Q,L,T,G0,G,w0,w,n,ds,s,μ,a,hc,hkn,h,hs,hk=>by
  simp only[bM]at h
  exact wp_ret (hk _ .ret _ _ h ⟨G,hs⟩)
 | .rangeFunc ..,α,k,r,Q,L,T,G0,G,w0,w,n,ds,s,μ,a,hc,hkn,h,hs,hk=>by simp[bM]at h
 | .scope ..,α,k,r,Q,L,T,G0,G,w0,w,n,ds,s,μ,a,hc,hkn,h,hs,hk=>by simp[bM]at h
 | .label ..,α,k,r,Q,L,T,G0,G,w0,w,n,ds,s,μ,a,hc,hkn,h,hs,hk=>by simp[bM]at h
 | .goto ..,α,k,r,Q,L,T,G0,G,w0,w,n,ds,s,μ,a,hc,hkn,h,hs,hk=>by simp[bM]at h
 | .refuse ..,α,k,r,Q,L,T,G0,G,w0,w,n,ds,s,μ,a,hc,hkn,h,hs,hk=>by simp[bM]at h
theorem Bj (hm:P.follows .mixedOrders=true)(hrho:el P W0 ρ)(hloop:j2 P W0 ρ)(hseg:mt P W0 ρ){H:Hints}{lv:List (Nat×Nat)}{c:Code}{s:S}{μ:Mu}{st:St}(h:ls P ρ H lv c s μ=some st){L:Nat}{G G0:Gh}{w w0:World}{a:Act}{Q:Exit→Act→World→Prop}
  {T:Nat→Prop} {n:Nat} {ds:Keep} (hc:dB n ds.slot c=true) (hkn:Kn W0 w0 T) (hs:gC L T G0 w0 n ds s μ a w G) (hQ: ∀e a' w',StR L T G0 w0 n ds st e a' w'→Q e a' w'):o2 P c Q a w:=by
 unfold ls at h
 refine .unroll (dr hm hrho hloop hseg c hc hkn h hs fun st1 e a' w' h' hst=> ?_)
 cases st1 with
 |norm s1 μ1=>
  cases e<;>simp only[StR]at hst
  obtain⟨G1,hs1⟩:=hst
  obtain⟨s3,G3,h3,R3,E3⟩:=jS h' hs1.1
  obtain⟨s2,G2,h2,R2,E2⟩:=dG h3 R3
  obtain⟨s4,G4,h2,R4,E4⟩:=mZ (R2.lev▸h2) R2 (hs1.2.1.trans (E3.trans E2)) hs1.2.2.2.2
  exact hloop _ _ _ _ _ _ h2 L G4 w' a' Q T G0 w0 n ds hc hkn ⟨R4,E4,hs1.2.2⟩ hQ
 |exit i s1 μ1=>
  cases e<;>first|exact hst.elim|skip
  simp only[StR]at hst
  obtain⟨rfl,G1,hs1⟩:=hst
  obtain⟨s2,G2,h2,R2,E2⟩:=dG h' hs1.1
  simp only[Option.some.injEq]at h2
  subst h2
  exact hQ (.exit i) a' w' ⟨rfl,G2,R2,hs1.2.1.trans E2,hs1.2.2⟩
 |ret s1 μ1=>
  cases e<;>first|exact hst.elim|skip
  simp only[StR]at hst
  obtain⟨G1,hs1⟩:=hst
  obtain⟨s2,G2,h2,R2,E2⟩:=dG h' hs1.1
  simp only[Option.some.injEq]at h2
  subst h2
  exact hQ .ret a' w' ⟨G2,R2,hs1.2.1.trans E2,hs1.2.2⟩
 |panic v s1 μ1=>
  cases e<;>first|exact hst.elim|skip
  simp only[StR]at hst
  obtain⟨G1,pv,rfl,hv,hs1⟩:=hst
  obtain⟨s2,G2,h2,R2,E2⟩:=dG h' hs1.1
  simp only[Option.some.injEq]at h2
  subst h2
  exact hQ _ a' w' ⟨G2,pv,rfl,bk E2.le _ _ hv,R2,hs1.2.1.trans E2,hs1.2.2⟩
theorem Hu (hm:P.follows .mixedOrders=true)(hrho:el P W0 ρ)(hloop:j2 P W0 ρ)(hseg:mt P W0 ρ){H:Hints}{lv:List (Nat×Nat)}{c:Code}{s:S}{μ:Mu}{st:St}(h:rP P ρ H lv c s μ=some st){L:Nat}{G G0:Gh}{w w0:World}{a:Act}{Q:Exit→Act→World→Prop}
  {T:Nat→Prop} {n:Nat} {ds:Keep} (hc:dB n ds.slot c=true) (hkn:Kn W0 w0 T) (hs:gC L T G0 w0 n ds s μ a w G) (hQ: ∀e a' w',StR L T G0 w0 n ds st e a' w'→Q e a' w'):c.wp P Q a w:=by
 unfold rP at h
 refine dr hm hrho hloop hseg c hc hkn h hs fun st1 e a' w' h' hst=> ?_
 cases st1 with
 |norm s1 μ1=>
  cases e<;>simp only[StR]at hst
  obtain⟨G1,hs1⟩:=hst
  obtain⟨s2,G2,h2,R2,E2⟩:=dG h' hs1.1
  simp only[Option.some.injEq]at h2
  subst h2
  exact hQ .normal a' w' ⟨G2,R2,hs1.2.1.trans E2,hs1.2.2⟩
 |exit i s1 μ1=>
  cases e<;>first|exact hst.elim|skip
  simp only[StR]at hst
  obtain⟨rfl,G1,hs1⟩:=hst
  obtain⟨s2,G2,h2,R2,E2⟩:=dG h' hs1.1
  simp only[Option.some.injEq]at h2
  subst h2
  exact hQ (.exit i) a' w' ⟨rfl,G2,R2,hs1.2.1.trans E2,hs1.2.2⟩
 |ret s1 μ1=>
  cases e<;>first|exact hst.elim|skip
  simp only[StR]at hst
  obtain⟨G1,hs1⟩:=hst
  obtain⟨s2,G2,h2,R2,E2⟩:=dG h' hs1.1
  simp only[Option.some.injEq]at h2
  subst h2
  exact hQ .ret a' w' ⟨G2,R2,hs1.2.1.trans E2,hs1.2.2⟩
 |panic v s1 μ1=>
  cases e<;>first|exact hst.elim|skip
  simp only[StR]at hst
  obtain⟨G1,pv,rfl,hv,hs1⟩:=hst
  obtain⟨s2,G2,h2,R2,E2⟩:=dG h' hs1.1
  simp only[Option.some.injEq]at h2
  subst h2
  exact hQ _ a' w' ⟨G2,pv,rfl,bk E2.le _ _ hv,R2,hs1.2.1.trans E2,hs1.2.2⟩
end
section
variable {P:Program}{W0:World}{ρ:Rho}{L:Nat}{G G':Gh}{w w':World}{s:S}{μ μ':Mu}{tm:Array Value}
def wg (tm:Array Value)(x:ResultVar):Sem Value:=match x with
 | .tmp t=>pure (tm.getD t undef)
 | .cell a t=>do loadVar t (←asAddr (tm.getD a undef))
theorem MH (R:Rel G L s μ tm w){x:ResultVar}{y:LV}(h:Hs P s x=some y): ∃v,(wg tm x).run P w= .ok v w∧LVR G w L s.lam.length y v∧ ∀b,aD y v b→ ∃t,aD (s.fr t) (tm.getD t undef) b:=by
 cases x with
 |tmp t=>
  simp only[Hs,Option.some.injEq]at h
  subst h
  exact⟨_,rfl,R.fr t,fun b hb=>⟨t,hb⟩⟩
 |cell c t=>
  simp only[Hs]at h
  split at h<;>try(simp at h;done)
  rename_i i off he
  have hv:=R.fr c
  rw[he]at hv
  simp only[LVR]at hv
  unfold bH at h
  obtain⟨d,hd,h⟩:=ab.1 h
  obtain⟨cv,h1,h2,h3⟩:=mU (R.lam i) h ⟨d,hd⟩
  refine⟨cv,?_,h2,fun b hb=>absurd hb (h3 b)⟩
  simp only[Instr.loadAt,Instr.sureAddr,Sem.run_bind,Sem.run_pure,Result.andThen_ok]at h1
  simp only[wg,hv.2,asAddr,Sem.run_bind,Sem.run_pure,Result.andThen_ok]
  exact h1
theorem yk (R:Rel G L s μ tm w): ∀{l:List ResultVar} {ys:List LV},sL P s l=some ys→ ∃vs:List Value,(l.mapM (wg tm)).run P w= .ok vs w∧vs.length=ys.length∧
  ∀j y,ys[j]? =some y→LVR G w L s.lam.length y (vs.getD j undef)∧ ∀b,aD y (vs.getD j undef) b→ ∃t,aD (s.fr t) (tm.getD t undef) b
 |[],ys,h=>by
  simp only[sL,Option.some.injEq]at h
  subst h
  exact⟨[],by simp,rfl,fun j y hy=>by simp at hy⟩
 |x::r,ys,h=>by
  simp only[sL]at h
  obtain⟨y,h1,h⟩:=ab.1 h
  obtain⟨l,h2,h⟩:=ab.1 h
  simp only[Option.some.injEq]at h
  subst h
  obtain⟨v,k1,k2,k3⟩:=MH R h1
  obtain⟨vs,k4,k5,k6⟩:=yk R h2
  refine⟨v::vs,by simp only[List.mapM_cons,Sem.run_bind,k1,Result.andThen_ok,k4,Sem.run_pure],by simp[k5],fun j z hz=> ?_⟩
  cases j with
  |zero=>simp only[List.getElem?_cons_zero,Option.some.injEq]at hz;subst hz;simpa using And.intro k2 k3
  |succ j=>simpa using k6 j z (by simpa using hz)
theorem Dd (R:Rel G L s μ tm w){fn:Func}{ys:List LV}(h:sL P s fn.results.toList=some ys):
  ∃v,(results fn tm).run P w= .ok v w∧LVR G w L s.lam.length (eq ys) v∧ ∀b,aD (eq ys) v b→ ∃t,aD (s.fr t) (tm.getD t undef) b:=by
 obtain⟨vs,h1,h2,h3⟩:=yk R h
 have hm:(fn.results.mapM (wg tm)).run P w= .ok vs.toArray w:=by
  rw[Array.mapM_eq_mapM_toList,Sem.run_map,h1]
  rfl
 have hrun:(results fn tm).run P w= .ok (if h:vs.toArray.size=1 then vs.toArray[0]else .tuple vs.toArray) w:=by
  unfold results
  rw[Sem.run_bind]
  have e: ∀x:Sem (Array Value),x.run P w= .ok vs.toArray w→(x.run P w).andThen (fun a w'=>Sem.run P (pure (if h:a.size=1 then a[0]else Value.tuple a)) w')=
    .ok (if h:vs.toArray.size=1 then vs.toArray[0]else .tuple vs.toArray) w:=fun x hx=>by rw[hx];rfl
  exact e _ hm
 refine⟨_,hrun,?_⟩
 by_cases hl:ys.length=1
 ·cases ys with
  |nil=>simp at hl
  |cons y r=>
   cases r with
   |cons=>simp at hl
   |nil=>
    cases vs with
    |nil=>simp at h2
    |cons v r=>
     cases r with
     |cons=>simp at h2
     |nil=>simpa[eq]using h3 0 y rfl
 ·have e:eq ys= .ltup (ys.map Go.Abs.strip1):=by
   cases ys with
   |nil=>rfl
   |cons t r=>
    cases r with
    |nil=>simp at hl
    |cons u r=>rfl
  rw[e,dif_neg (by simpa[h2]using hl)]
  refine⟨?_,fun b hb=>by simp[aD]at hb⟩
  simp only[LVR]
  refine⟨_,rfl,?_⟩
  simp only
  clear e hl hrun hm h1 h
  induction ys generalizing vs with
  |nil=>cases vs<;>simp_all [bR]
  |cons y r ih=>
   cases vs with
   |nil=>simp at h2
   |cons v vs=>
    have h0:=h3 0 y rfl
    simp only[List.getD_cons_zero]at h0
    simp only[List.map_cons,bR]
    refine⟨v,vs,rfl,(ic h0.1).2,(ic h0.1).1,ih vs (by simpa using h2) fun j z hz=> ?_⟩
    simpa using h3 (j+1) z (by simpa using hz)
theorem Rel.leave {G0:Gh}{w0:World}{T:Nat→Prop}(R:Rel G L s μ tm w)(E:Ext L T G0 w0 G w (ax G w s μ tm))(h0:G0.n L=0)(hgt: ∀l,L<l→G0.n l=0){vs:List LV}{tmr:Array Value}
  (hv: ∀j x,vs[j]? =some x→LVR (G.cut L) w L 0 x (tmr.getD j undef)) (ho: ∀j x b,vs[j]? =some x→aD x (tmr.getD j undef) b→(∃t,aD (s.fr t) (tm.getD t undef) b)∧j=0):
  Rel (G0.withO G.O) L (aM vs) μ tmr w∧Ext L T G0 w0 (G0.withO G.O) w (ax (G0.withO G.O) w (aM vs) μ tmr)∧Le (G.cut L) w (G0.withO G.O) w:=by
 have hμ:=R.lev
 have hleC:Le (G.cut L) w (G0.withO G.O) w:=by
  refine⟨fun _ _ _ h hb=>⟨h,hb⟩,fun lev i h=> ?_,fun _ _ _ h hc=>⟨h,hc⟩,fun b cur e fz h=>⟨cur,fz,h,rfl⟩⟩
  simp only[Gh.cut]at h
  split at h
  ·rename_i hl
   obtain⟨h1,h2⟩:=E.lev lev hl
   simp only[Gh.withO,Gh.cut]
   exact⟨by rw[←h2];exact h,(h1 i).1.symm,(h1 i).2.symm⟩
  ·omega
 have hβ: ∀lev i,lev<L→(G0.withO G.O).β lev i=G.β lev i∧(G0.withO G.O).sz lev i=G.sz lev i:=fun lev i hl=>⟨((E.lev lev hl).1 i).1.symm,((E.lev lev hl).1 i).2.symm⟩
 have hlive: ∀lev i,aK (aC (μ++[(aM vs).lam]) lev i)→lev<L∧aK (aC (μ++[s.lam]) lev i):=by
  intro lev i h
  obtain⟨h1,h2⟩:=km h
  refine⟨by omega,?_⟩
  have h3:aC (μ++[s.lam]) lev i=bb μ lev i:=bC h1
  rw[h3,←h2];exact h
 have hown: ∀q b,aw (G0.withO G.O) w (aM vs).fr tmr (μ++[(aM vs).lam]) q b→(∃t,q= .fr 0∧aw G w s.fr tm (μ++[s.lam]) (.fr t) b)∨(∃lev i k,q= .ob lev i k∧aw G w s.fr tm (μ++[s.lam]) q b):=by
  intro q b h
  cases q with
  |fr t=>
   simp only[aw,cu]at h
   cases hx:vs[t]? with
   |none=>rw[hx]at h;simp[aD]at h
   |some x=>
    rw[hx]at h
    obtain⟨⟨u,hu⟩,rfl⟩:=ho t x b hx h
    exact .inl ⟨u,rfl,hu⟩
  |ob lev i k=>
   have hl:=fu h
   obtain⟨h1,h2⟩:=km hl
   refine .inr ⟨lev,i,k,rfl,gZ (fr':=(aM vs).fr) (tm':=tmr) ?_ (hβ lev i (by omega)).1 rfl h⟩
   rw[show aC (μ++[(aM vs).lam]) lev i=bb μ lev i from h2]
   exact(bC h1).symm
 refine⟨⟨hμ,fun t=> ?_,fun i=> ?_,fun lev i hl=> ?_,fun lev i lev' i' h h' e=> ?_,fun q q' b h h'=> ?_,fun q b lev i h h' e=> ?_,fun lev hl=> ?_,?_,hgt⟩,⟨⟨E.le.map,fun lev i h=>⟨h,rfl,rfl⟩,E.le.imm,E.le.blk⟩,E.os,E.tape,E.output,E.size,E.keep,fun b hb=>E.grow b ?_,fun l hl=>⟨fun _=>⟨rfl,rfl⟩,rfl⟩⟩,hleC⟩
 ·rw[cu]
  cases hx:vs[t]? with
  |none=>simp[LVR,VR]
  |some x=>
   have h1:=hv t x hx
   refine tK x _ (df (L:=L) (nl:=0) hleC (Nat.le_refl _) (fun i hi=>by omega) x _ (fun b _=>⟨rfl,rfl⟩) h1)
 ·have:aG (aM vs).lam i= .dead:=by simp[aM,aG]
  rw[this];trivial
 ·rw[(hβ lev i hl).1,(hβ lev i hl).2]
  refine cU (G:=G.below lev) (G':=(G0.withO G.O).below lev) (w':=w) ⟨fun _ _ _ h hb=>⟨h,hb⟩,fun l j hj=> ?_,fun _ _ _ h hc=>⟨h,hc⟩,fun b cur e fz h=>⟨cur,fz,h,rfl⟩⟩ (Nat.le_refl _) (fun _ h=>by omega) (fun _=>⟨rfl,rfl⟩) (fun _ _ _ _ _ _ _ _ _ _ _=>⟨rfl,rfl⟩) (R.mu lev i hl)
  simp only[Gh.below,Gh.withO]at hj ⊢
  split at hj
  ·rename_i hll
   obtain⟨h1,h2⟩:=E.lev l (by omega)
   rw[if_pos hll]
   exact⟨by rw[←h2];exact hj,(h1 j).1.symm,(h1 j).2.symm⟩
  ·omega
 ·have h1:=hlive lev i h
  have h2:=hlive lev' i' h'
  rw[(hβ lev i h1.1).1,(hβ lev' i' h2.1).1]at e
  exact R.inj lev i lev' i' h1.2 h2.2 e
 ·rcases hown q b h with⟨t,rfl,h1⟩|⟨lev,i,k,rfl,h1⟩<;>rcases hown q' b h' with⟨t',rfl,h1'⟩|⟨lev',i',k',rfl,h1'⟩
  ·rfl
  ·have:=R.own _ _ b h1 h1';cases this
  ·have:=R.own _ _ b h1 h1';cases this
  ·exact R.own _ _ b h1 h1'
 ·have h2:=hlive lev i h'
  rw[(hβ lev i h2.1).1]at e
  rcases hown q b h with⟨t,rfl,h1⟩|⟨lev',i',k',rfl,h1⟩
  ·exact R.apart _ b lev i h1 h2.2 e
  ·exact R.apart _ b lev i h1 h2.2 e
 ·have:=(E.lev lev hl).2
  rw[show (G0.withO G.O).n lev=G0.n lev from rfl,←this]
  exact R.nlt lev hl
 ·simp only[aM,Bool.false_eq_true,if_false]
  exact h0
 ·rcases hb with⟨q,hb⟩|⟨lev,i,hb,e⟩
  ·rcases hown q b hb with⟨t,rfl,h1⟩|⟨lev,i,k,rfl,h1⟩
   ·exact .inl ⟨_,h1⟩
   ·exact .inl ⟨_,h1⟩
  ·have h2:=hlive lev i hb
   exact .inr ⟨lev,i,h2.2,by rw[←(hβ lev i h2.1).1];exact e⟩
theorem Dr (h0:G.n L=0)(hgt: ∀l,L<l→G.n l=0):Le G w (G.cut L) w:=by
 refine⟨fun _ _ _ h hb=>⟨h,hb⟩,fun lev i h=>⟨?_,rfl,rfl⟩,fun _ _ _ h hc=>⟨h,hc⟩,fun b cur e fz h=>⟨cur,fz,h,rfl⟩⟩
 have hl:lev<L:=by
  rcases Nat.lt_trichotomy lev L with h1|h1|h1
  ·exact h1
  ·subst h1;omega
  ·have:=hgt lev h1;omega
 simp only[Gh.cut,if_pos hl]
 exact h
theorem qn: ∀{l:List LV},fk l=true→ ∀x∈l,g0 x=true
 |[],_,x,h=>by simp at h
 |y::r,hp,x,h=>by
  simp only[fk]at hp
  split at hp<;>try(simp at hp;done)
  rcases List.mem_cons.1 h with rfl|h
  ·assumption
  ·exact qn hp x h
theorem LF {nl:Nat}{x:LV}{v:Value}(hf:ov x=true)(hr:LVR G w L nl x v)(hb:(G.n L=0∧ ∀l,L<l→G.n l=0)∨fq L x=true):LVR (G.cut L) w L 0 x v:=by
 have one: ∀{x:LV} {v:Value},g0 x=true→LVR G w L nl x v→((G.n L=0∧ ∀l,L<l→G.n l=0)∨lf L x=true)→LVR (G.cut L) w L 0 x v:=by
  intro x v hp hr hb
  cases x<;>simp only[g0,Bool.false_eq_true]at hp<;>simp only[LVR]at hr ⊢
  ·rcases hb with⟨h0,hgt⟩|hb
   ·exact bk (Dr h0 hgt) _ _ hr
   ·exact dV _ _ hb hr
  ·rcases hb with⟨h0,hgt⟩|hb
   ·exact jw (Dr h0 hgt) (fun _ _ _ _=>⟨rfl,rfl⟩) hr
   ·exact xx hb hr
 unfold ov at hf
 split at hf
 ·exact one rfl hr (hb.imp id (fun h=>h))
 ·exact one rfl hr (hb.imp id (fun h=>h))
 ·rename_i xs
  simp only[LVR]at hr ⊢
  obtain⟨vs,e,hl⟩:=hr
  refine⟨vs,e,?_⟩
  have hb':(G.n L=0∧ ∀l,L<l→G.n l=0)∨ ∀x∈xs,lf L x=true:=hb.imp id fun h=>by simpa[fq]using h
  have hm:=qn hf
  clear hb hf e
  generalize vs.toList=l at hl
  induction xs generalizing l with
  |nil=>simpa[bR]using hl
  |cons x xs ih=>
   simp only[bR]at hl ⊢
   obtain⟨v,r,e,h1,h2,h3⟩:=hl
   exact⟨v,r,e,h1,one (hm x (by simp)) h2 (hb'.imp id fun h=>h x (by simp)),ih (hb'.imp id fun h y hy=>h y (List.mem_cons_of_mem _ hy)) (fun y hy=>hm y (List.mem_cons_of_mem _ hy)) r h3⟩
 ·simp at hf
theorem Rel.retm (R:Rel G L s μ tm w){tm':Array Value}(hf: ∀t,s.fr t= .cv .undef∨tm'.getD t undef=tm.getD t undef):
  Rel G L s μ tm' w∧ ∀q b,aw G w s.fr tm' (μ++[s.lam]) q b↔aw G w s.fr tm (μ++[s.lam]) q b:=by
 have hown: ∀q b,aw G w s.fr tm' (μ++[s.lam]) q b↔aw G w s.fr tm (μ++[s.lam]) q b:=by
  intro q b
  cases q with
  |fr t=>
   simp only[aw]
   rcases hf t with h|h
   ·rw[h];simp[aD]
   ·rw[h]
  |ob lev i k=>exact Iff.rfl
 refine⟨⟨R.lev,fun t=> ?_,R.lam,R.mu,R.inj,fun l l' b h h'=>R.own l l' b ((hown l b).1 h) ((hown l' b).1 h'),fun l b lev i h h'=>R.apart l b lev i ((hown l b).1 h) h',R.nlt,R.nL,R.ngt⟩,hown⟩
 rcases hf t with h|h
 ·rw[h];simp[LVR,VR]
 ·rw[h];exact R.fr t
theorem rj {fn:Func}{G0:Gh}{w0:World}{T:Nat→Prop}{out:Out}(hfk:fF P fn.results.toList s μ=some out)(R':Rel G L s μ tm w)(E':Ext L T G0 w0 G w (ax G w s μ tm))
  (h0:G0.n L=0) (hgt: ∀l,L<l→G0.n l=0): ∃v,(results fn tm).run P w= .ok v w∧eX L T G0 w0 out (.returned v) w:=by
 unfold fF at hfk
 obtain⟨ys,hys,hfk⟩:=ab.1 hfk
 dsimp only at hfk
 obtain⟨hfl,hfk⟩:=aJ.1 hfk
 obtain⟨v,hv1,hr1,hr2⟩:=Dd R' hys
 have hout:out= .ret (eq ys) μ∧((G.n L=0∧ ∀l,L<l→G.n l=0)∨fq L (eq ys)=true):=by
  split at hfk
  ·rename_i hp
   simp only[Option.some.injEq]at hfk
   refine⟨hfk.symm,.inl ⟨?_,R'.ngt⟩⟩
   have:=R'.nL
   rw[hp]at this
   simpa using this
  ·obtain⟨hbl,hfk⟩:=aJ.1 hfk
   simp only[Option.some.injEq]at hfk
   rw[R'.lev]at hbl
   exact⟨hfk.symm,.inr hbl⟩
 obtain⟨rfl,hbel⟩:=hout
 refine⟨v,hv1,?_⟩
 obtain ⟨R3, E3, _⟩ := R'.leave (vs := [eq ys]) (tmr := #[v]) E' h0 hgt (fun j x hx => by
  cases j with
  |zero=>simp only[List.getElem?_cons_zero,Option.some.injEq]at hx;subst hx;exact LF hfl hr1 hbel
  |succ j=>simp at hx) (fun j x b hx hob=>by
  cases j with
  |zero=>simp only[List.getElem?_cons_zero,Option.some.injEq]at hx;subst hx;exact⟨hr2 b hob,rfl⟩
  |succ j=>simp at hx)
 exact⟨_,R3,E3⟩
theorem BT (hm:P.follows .mixedOrders=true)(hrho:el P W0 ρ)(hloop:j2 P W0 ρ)(hseg:mt P W0 ρ){H:Hints}{f:FuncId}{fn:Func}{c:Code}{args:List LV}{out:Out}(hf:P.funcs[f]? =some fn)(hb:fn.body=some c)
  (h:yP P ρ H fn c args μ=some out):cD P W0 f args μ out:=by
 unfold yP at h
 obtain⟨hg,h⟩:=aJ.1 h
 simp only[Bool.and_eq_true,Bool.not_eq_true']at hg
 obtain⟨⟨hg1,hg2⟩,hg3⟩:=hg
 have hg1:=Nat.le_of_ble_eq_true hg1
 refine⟨⟨fn,c,hf,hb,hg3⟩,fun G w cargs hsz R hkn=> ?_⟩
 refine calls_of_wp hf hb ?_
 have hsize:(cargs++Array.replicate (fn.ntmps-cargs.size) undef).size=fn.ntmps:=by simp;omega
 obtain⟨R1,hO⟩:=R.retm (tm':=cargs++Array.replicate (fn.ntmps-cargs.size) undef) fun t=>by
  by_cases ht:t<cargs.size
  ·right
   simp[Array.getD_eq_getD_getElem?,Array.getElem?_append_left ht]
  ·left
   rw[cu,List.getElem?_eq_none (by omega)]
   rfl
 have h0:G.n μ.length=0:=by simpa[aM]using R.nL
 refine dr hm hrho hloop hseg (L:=μ.length) (T:=ax G w (aM args) μ cargs) (G0:=G) (w0:=w) (n:=fn.ntmps) (ds:=⟨[],none⟩) c hg2 hkn h ⟨R1,Ext.refl G w fun b hb=> ?_,hsize,⟨rfl,fun _ _ e=>by cases e⟩,h0⟩ ?_
 ·rcases hb with⟨q,hb⟩|hb
  ·exact .inl ⟨q,(hO q b).1 hb⟩
  ·exact .inr hb
 ·have fin: ∀(s':S) (μ':Mu) (a':Act) (w':World) (G':Gh),fF P fn.results.toList s' μ'=some out→gC μ.length (ax G w (aM args) μ cargs) G w fn.ntmps ⟨[],none⟩ s' μ' a' w' G'→
    a'.defers=[]∧ ∃v,(results fn a'.tmps).run P w'= .ok v w'∧eX μ.length (ax G w (aM args) μ cargs) G w out (.returned v) w':=by
   intro s' μ' a' w' G' hfk hs
   obtain⟨R',E',_,hds,_⟩:=hs
   obtain⟨v,h1,h2⟩:=rj hfk R' E' h0 R.ngt
   exact⟨hds.1,v,h1,h2⟩
  intro st e a' w' hst hr
  cases st with
  |norm s' μ'=>
   cases e<;>simp only[StR]at hr
   obtain⟨G',hs⟩:=hr
   exact fin s' μ' a' w' G' hst hs
  |ret s' μ'=>
   cases e<;>simp only[StR]at hr
   obtain⟨G',hs⟩:=hr
   exact fin s' μ' a' w' G' hst hs
  |exit i s' μ'=>simp at hst
  |panic v s' μ'=>
   cases e<;>simp only[StR]at hr
   obtain⟨G',pv,rfl,hv,R',E',_,hds,_⟩:=hr
   obtain⟨hbl,hst⟩:=aJ.1 hst
   simp only[Option.some.injEq]at hst
   subst hst
   rw[R'.lev]at hbl
   refine⟨hds.1,?_⟩
   obtain⟨R3,E3,hle⟩:=R'.leave (vs:=[]) (tmr:= #[]) E' h0 R.ngt (fun j x hx=>by simp at hx) (fun j x b hx=>by simp at hx)
   exact⟨_,pv,rfl,bk hle _ _ (dV _ _ hbl hv),R3,E3⟩
end
end Go.Abs
set_option linter.unusedVariables false
set_option linter.unusedSimpArgs false
namespace Go.Abs
open Go
section
variable {P:Program}{W0:World}{ρ:Rho}{L:Nat}{G G':Gh}{w w':World}{s:S}{μ μ':Mu}{tm:Array Value}
def za (N:Act→World→Prop)(Q:Exit→Act→World→Prop):Exit→Act→World→Prop
  | .normal,a,w=>N a w
  |e,a,w=>Q e a w
theorem r6 {ops:Array Oper}{Q:Exit→Act→World→Prop}{l2:List Nat}: ∀{l1:List Nat} {a:Act} {w:World},wpOps P ops (za (wpOps P ops Q l2) Q) l1 a w→wpOps P ops Q (l1++l2) a w
  |[],a,w,h=>h
  |i::l1,a,w,h=>by
    rw[List.cons_append,wpOps_cons]
    rw[wpOps_cons]at h
    have h:=wpOp_mono (fun a w=>r6 (l1:=l1)) h
    unfold wpOp at h ⊢
    split at h
    · exact h
    · split at h
      · rename_i hw
        rw[if_pos hw]
        rcases h with h|⟨h1,a',w',h2⟩
        · left
          unfold Oper.wp at h ⊢
          generalize(execOp a.eval _).run P w=r at*
          cases r with
          |ok n w'=>
            cases n<;>simp only[Oper.upon]at h ⊢ <;>first
              |exact h
              | (refine Go.Calls.mono h fun e w'' he => ?_
                 cases e with
                 |returned v=>exact he
                 |panicked ch=>exact he
                 |outgrown=>obtain⟨a',w',h2⟩:=he;exact⟨a',w',h2⟩)
          |halt x w'=>cases x<;>simp only[Oper.upon]at h ⊢ <;>exact h
        · exact .inr ⟨h1,a',w',h2⟩
      · rename_i hw
        rw[if_neg hw]
        exact h
theorem fU {ops:Array Oper}{Q:Exit→Act→World→Prop}{Q':Exit→Act→List Frame→World→Prop}{cs:List Frame}(hQ: ¬LetsOut Q)(hq: ∀e a w,Q e a w→Q' e a cs w): ∀{l:List Nat} {a:Act} {w:World},wpOps P ops Q l a w→wpOpsS P ops Q' l a cs w
  |[],a,w,h=>hq _ _ _ h
  |i::l,a,w,h=>by
    simp only[wpOps]at h
    simp only[wpOpsS]
    cases ho:ops[i]? with
    |none=>rw[ho]at h;exact fU hQ hq h
    |some o=>
      rw[ho]at h
      simp only at h ⊢
      split at h
      · rename_i hw
        rw[if_pos hw]
        rcases h with h|⟨_,h⟩
        rotate_left
        · exact absurd h hQ
        unfold Oper.wp at h
        generalize(execOp a.eval o).run P w=r at*
        cases r with
        |ok n w'=>
          cases n with
          |value v=>exact fU hQ hq h
          |skip=>exact fU hQ hq h
          |defer d=>exact fU hQ hq h
          |enter f args=>
            refine Go.Calls.mono h fun e w'' he=> ?_
            cases e with
            |returned v=>exact fU hQ hq he
            |panicked ch=>exact hq _ _ _ he
            |outgrown=>exact absurd he hQ
          |row row args=>exact Rows.mono h fun v w'' he=>fU hQ hq he
          |_=>exact h.elim
        |halt x w'=>
          cases x with
          |panic v=>exact hq _ _ _ h
          |_=>exact h.elim
      · rename_i hw
        rw[if_neg hw]
        exact fU hQ hq h
theorem M1 {c:Code}{Q Q':Exit→Act→List Frame→World→Prop}{a:Act}{cs:List Frame}{w:World}(hq: ∀e a cs w,Q e a cs w→Q' e a cs w)(h:c.wpS P Q a cs w):c.wpS P Q' a cs w:=
  fun b k hb hr=>let⟨e,a',cs',w',q,r⟩:=h b k hb hr;⟨e,a',cs',w',hq _ _ _ _ q,r⟩
def oC (pv:Option CV)(cpv:Value):FrameMode:=match pv with|some _=> .panicking [{v:=cpv,recovered:=false}]|none=> .returning
def eE (pv:Option CV)(cpv:Value):FrameMode:=match pv with|some _=> .panicking [{v:=cpv,recovered:=true}]|none=> .returning
theorem yF {pv:Option CV}{cpv:Value}:settle (eE pv cpv)= .returning:=by
  cases pv<;>simp[eE,settle]
def HZ (P:Program)(W0:World)(f:FuncId)(pv:Option CV)(args:List LV)(μ μ':Mu):Prop:=
  (∃fn c,P.funcs[f]? =some fn∧fn.body=some c∧(fn.name == "runtime.NumGoroutine")=false)∧
  ∀(G:Gh) (w:World) (cargs:Array Value) (cpv:Value),cargs.size=args.length→Rel G μ.length (aM args) μ cargs w→(∀v,pv=some v→VR G w v cpv)→Kn W0 w (ax G w (aM args) μ cargs)→
    CallsD P f cargs (oC pv cpv) w fun e u' w'=> ∃v,e= .returned v∧u'=eE pv cpv∧
      ∃O',Rel (G.withO O') μ.length (aM []) μ' #[] w'∧Ext μ.length (ax G w (aM args) μ cargs) G w (G.withO O') w' (ax (G.withO O') w' (aM []) μ' #[])
def tH (P:Program)(W0:World)(ρ:Rho):Prop:= ∀f pv args μ μ',ρ.dcall f pv args μ=some μ'→HZ P W0 f pv args μ μ'
theorem w6 {o:Oper}(h:ro o=true):o.guard=none∧ ∃c,o.op= .call c∧c.callee= .builtin .recover:=by
  unfold ro at h
  split at h<;>try(cases h;done)
  rename_i c hg ho
  split at h<;>try(cases h;done)
  rename_i hc
  exact⟨hg,c,ho,hc⟩
theorem Ai (hm:P.follows .mixedOrders=true)(hrho:el P W0 ρ)(hloop:j2 P W0 ρ)(hseg:mt P W0 ρ){H:Hints}{f:FuncId}{fn:Func}{c:Code}{pv:Option CV}{args:List LV}(hf:P.funcs[f]? =some fn)(hb:fn.body=some c)
    (h:om P ρ H fn c pv args μ=some μ'):HZ P W0 f pv args μ μ':=by
  unfold om at h
  split at h<;>try(cases h;done)
  rename_i id ops draw b
  split at h<;>try(cases h;done)
  split at h<;>try(cases h;done)
  rename_i o ho
  obtain⟨hg,h⟩:=aJ.1 h
  simp only[Bool.and_eq_true,Bool.not_eq_true']at hg
  obtain⟨⟨⟨⟨⟨hg1,hg2⟩,hg3⟩,hg4⟩,hg5⟩,hg6⟩:=hg
  have hg1:=Nat.le_of_ble_eq_true hg1
  refine⟨⟨fn,_,hf,hb,hg4⟩,fun G w cargs cpv hsz R hpv hkn=> ?_⟩
  obtain⟨hgu,cc,hop,hcal⟩:=w6 hg5
  have hsize:(cargs++Array.replicate (fn.ntmps-cargs.size) undef).size=fn.ntmps:=by simp;omega
  obtain⟨R1,hO⟩:=R.retm (tm':=cargs++Array.replicate (fn.ntmps-cargs.size) undef) fun t=>by
    by_cases ht:t<cargs.size
    · right
      simp[Array.getD_eq_getD_getElem?,Array.getElem?_append_left ht]
    · left
      rw[cu,List.getElem?_eq_none (by omega)]
      rfl
  have h0:G.n μ.length=0:=by simpa[aM]using R.nL
  have E1:Ext μ.length (ax G w (aM args) μ cargs) G w G w (ax G w (aM args) μ (cargs++Array.replicate (fn.ntmps-cargs.size) undef)):=Ext.refl G w fun b hb=>by
    rcases hb with⟨q,hb⟩|hb
    · exact .inl ⟨q,(hO q b).1 hb⟩
    · exact .inr hb
  refine callsD_of_wpS hf hb fun c₀ cs hc₀=> ?_
  let A:Act:={tmps:=cargs++Array.replicate (fn.ntmps-cargs.size) undef,defers:=[]}
  let rv:Value:=match pv with|some _=>cpv|none=> .nilIface
  let c1:Frame:={c₀ with mode:=eE pv cpv}
  have hds: ∀(i:Nat) (o:Oper),ops[i]? =some o→ ∀d,o.dst=some d→d<fn.ntmps∧(Keep.mk [] none).lets d:=fun i o ho d hd=>jT (ds:=⟨[],none⟩) hg2 (by simpa using ho) d hd
  obtain ⟨R2, E2⟩ := cN (a := A) (dst := o.dst) (v := Bh pv) (cv := rv) (w := w) R1 E1 (by
    cases pv with
    |none=>simp[Bh,rv,LVR,VR]
    |some v=>simpa[Bh,rv,LVR]using hpv v rfl) (fun b hb=>by cases pv<;>simp[Bh,aD]at hb) (fun d hd=>by rw[show A.tmps=_ from rfl,hsize];exact(hds 0 o ho d hd).1)
  have hpos:0<ops.size:=(Array.getElem?_eq_some_iff.1 ho).1
  have hrange:List.range ops.size=0::List.range' 1 (ops.size-1):=by
    rw[List.range_eq_range']
    conv=>lhs;rw[show ops.size=(ops.size-1)+1 by omega]
    rw[List.range'_succ]
  let Q:Exit→Act→World→Prop:=fun e a w'=>match e with
    | .normal| .ret=>a.defers=[]∧(∃v,(results fn a.tmps).run P w'= .ok v w')∧ ∃O',Rel (G.withO O') μ.length (aM []) μ' #[] w'∧Ext μ.length (ax G w (aM args) μ cargs) G w (G.withO O') w' (ax (G.withO O') w' (aM []) μ' #[])
    |_=>False
  have hlets: ∀N,¬LetsOut (za N Q):=fun N ⟨a,w,h⟩=>h
  have fin: ∀(s':S) (a':Act) (w':World) (G':Gh),gC μ.length (ax G w (aM args) μ cargs) G w fn.ntmps ⟨[],none⟩ s' μ' a' w' G'→
      a'.defers=[]∧(∃v,(results fn a'.tmps).run P w'= .ok v w')∧ ∃O',Rel (G.withO O') μ.length (aM []) μ' #[] w'∧Ext μ.length (ax G w (aM args) μ cargs) G w (G.withO O') w' (ax (G.withO O') w' (aM []) μ' #[]):=by
    intro s' a' w' G' hs
    obtain⟨R',E',_,hd,_⟩:=hs
    refine⟨hd.1,?_,?_⟩
    · have he:fn.results= #[]:=by simpa using hg6
      exact⟨.tuple #[],by simp[results,he]⟩
    · obtain⟨R3,E3,_⟩:=R'.leave (vs:=[]) (tmr:= #[]) E' h0 R.ngt (fun j x hx=>by simp at hx) (fun j x b hx=>by simp at hx)
      exact⟨_,R3,E3⟩
  have hbw: ∀(s':S) (μ1:Mu) (a':Act) (w':World) (G':Gh),(bM P ρ H b s' μ1 fun st=>match st with| .norm s μ=>some μ| .ret s μ=>some μ|_=>none)=some μ'→gC μ.length (ax G w (aM args) μ cargs) G w fn.ntmps ⟨[],none⟩ s' μ1 a' w' G'→b.wp P Q a' w':=by
    intro s' μ1 a' w' G' hx hs
    refine dr hm hrho hloop hseg (L:=μ.length) (G0:=G) (w0:=w) (n:=fn.ntmps) (ds:=⟨[],none⟩) b hg3 hkn hx hs fun st e a2 w2 hst hr=> ?_
    cases st with
    |norm s2 μ2=>
      simp only[Option.some.injEq]at hst
      subst hst
      cases e<;>simp only[StR]at hr
      obtain⟨G2,hs2⟩:=hr
      exact fin s2 a2 w2 G2 hs2
    |ret s2 μ2=>
      simp only[Option.some.injEq]at hst
      subst hst
      cases e<;>simp only[StR]at hr
      obtain⟨G2,hs2⟩:=hr
      exact fin s2 a2 w2 G2 hs2
    |exit i s2 μ2=>simp at hst
    |panic v s2 μ2=>simp at hst
  have hops:wpOps P ops (za (b.wp P Q) Q) (List.range' 1 (ops.size-1)) (A.put o.dst rv) w:=by
    refine gc (L:=μ.length) (G0:=G) (w0:=w) (T:=ax G w (aM args) μ cargs) (n:=fn.ntmps) (ds:=⟨[],none⟩) (r:=μ') hrho hds hkn ?_ ?_ _ h R2 E2 (by rw[(i7 A o.dst rv).1];exact hsize) (Keep.put ⟨rfl,fun _ _ e=>by cases e⟩ fun d hd=>(hds 0 o ho d hd).2)
    · intro s1 μ1 a1 w1 G1 hx R' E' hn' hd'
      exact hbw s1 μ1 a1 w1 G1 hx ⟨R',E',hn',hd',h0⟩
    · intro v s1 μ1 pv1 a1 w1 G1 hx
      cases hx
  refine wpS_seq (wpS_region ?_)
  rw[hrange]
  simp only[wpOpsS,ho]
  have hw:Region.wanted o (yielded ops A.tmps)=true:=by simp[Region.wanted,hgu]
  rw[if_pos hw]
  have hrun:(execOp A.eval o).run P w= .ok .recover w:=by
    simp[execOp,hop,resolve,hcal,invoke,builtin]
  have hrec:recoverD (c₀::cs)=(match pv with|some _=>some (cpv,c1::cs)|none=>none):=by
    cases pv with
    |none=>simp[recoverD,hc₀,oC]
    |some v=>simp[recoverD,hc₀,oC,c1,eE]
  rw[hrun]
  simp only
  have key : wpOpsS P ops (Exit.thenS (b.wpS P (bodyPostS P fn c₀ cs fun e u' w' => ∃ v, e = .returned v ∧ u' = eE pv cpv ∧
      ∃O',Rel (G.withO O') μ.length (aM []) μ' #[] w'∧Ext μ.length (ax G w (aM args) μ cargs) G w (G.withO O') w' (ax (G.withO O') w' (aM []) μ' #[])))
      (bodyPostS P fn c₀ cs fun e u' w' => ∃ v, e = .returned v ∧ u' = eE pv cpv ∧
      ∃O',Rel (G.withO O') μ.length (aM []) μ' #[] w'∧Ext μ.length (ax G w (aM args) μ cargs) G w (G.withO O') w' (ax (G.withO O') w' (aM []) μ' #[])))
      (List.range' 1 (ops.size-1)) (A.put o.dst rv) (c1::cs) w:=by
    refine fU (hlets _) ?_ hops
    intro e a1 w1 hq
    cases e with
    |normal=>
      simp only[Exit.thenS]
      refine M1 ?_ (wpS_of_wp (cs:=c1::cs) (Q:=fun e a cs' w=>cs'=c1::cs∧Q e a w) (Code.wp_mono (fun e a w h=>⟨rfl,h⟩) hq))
      rintro e a2 cs2 w2 ⟨rfl,hq2⟩
      cases e with
      |normal=>obtain⟨h1,⟨v,h2⟩,h3⟩:=hq2;exact⟨h1,_,rfl,v,h2,v,rfl,rfl,h3⟩
      |ret=>obtain⟨h1,⟨v,h2⟩,h3⟩:=hq2;exact⟨h1,_,rfl,v,h2,v,rfl,rfl,h3⟩
      |_=>exact hq2.elim
    |ret=>obtain⟨h1,⟨v,h2⟩,h3⟩:=hq;exact⟨h1,_,rfl,v,h2,v,rfl,rfl,h3⟩
    |_=>exact hq.elim
  cases pv with
  |none=>
    rw[hrec]
    have e1:c1=c₀:=by
      simp only[c1,eE]
      rw[show FrameMode.returning=c₀.mode from hc₀.symm]
    rw[e1]at key
    exact key
  |some v=>
    rw[hrec]
    exact key
theorem Ay {t:Nat}{o:Oper}(h:w5 t o=true):o.guard=none∧o.dst=none∧ ∃c,o.op= .defer c∧c.callee= .value (.tmp t)∧c.args= #[]:=by
  unfold w5 at h
  split at h<;>try(cases h;done)
  rename_i c hg hd ho
  split at h<;>try(cases h;done)
  rename_i u hc
  split at h<;>try(cases h;done)
  rename_i ha
  have:=Nat.eq_of_beq_eq_true h
  subst this
  exact⟨hg,hd,c,ho,hc,by simpa using ha⟩
theorem wT {T:Nat→Prop}{G0:Gh}{w0:World}(hd:tH P W0 ρ){t:Nat}{pv:Option CV}{α:Type}{k:S→Mu→Option α}{r:α}(h:jD ρ t pv s μ k=some r)(R:Rel G L s μ tm w)(E0:Ext L T G0 w0 G w (ax G w s μ tm))
    (hkn:Kn W0 w0 T) {cpv:Value} (hpv: ∀v,pv=some v→VR G w v cpv):
    ∃f vs,tm.getD t undef= .func (.func f) #[] vs∧(∃fn c,P.funcs[f]? =some fn∧fn.body=some c∧(fn.name == "runtime.NumGoroutine")=false)∧
      CallsD P f vs (oC pv cpv) w fun e u' w'=> ∃v,e= .returned v∧u'=eE pv cpv∧ ∃s' μ' G',k s' μ'=some r∧Rel G' L s' μ' tm w'∧Ext L T G0 w0 G' w' (ax G' w' s' μ' tm):=by
  unfold jD at h
  split at h<;>try(cases h;done)
  rename_i f caps hfr
  obtain⟨args',ha,h⟩:=ab.1 h
  obtain⟨l,hlm,h⟩:=ab.1 h
  obtain⟨μ2,hdc,h⟩:=ab.1 h
  obtain⟨q,hq,hk9⟩:=ab.1 h
  have hq':=p5 hq
  clear hq h
  subst hq'
  have hv:=R.fr t
  rw[hfr]at hv
  simp only[LVR]at hv
  obtain⟨vs,hvs,hcaps⟩:=hv
  obtain⟨hfn,hM⟩:=hd _ _ _ _ _ hdc
  refine⟨f,vs,hvs,hfn,?_⟩
  have hμ:=R.lev
  rw[hμ]at ha hlm
  obtain⟨hcl,hcg⟩:=oX hcaps
  have A:ArgsR G w L s tm [] caps vs:=by
    refine⟨by simpa using hcl.symm,fun j x hx=> ?_,fun j x b hx hob=> ?_⟩
    · obtain⟨v,hv,hr,_⟩:=hcg j x hx
      have:vs.getD j undef=v:=by
        rw[Array.getElem?_toList]at hv
        simp[Array.getD_eq_getD_getElem?,hv]
      rw[this]
      exact hr
    · obtain⟨v,hv,hr,hne⟩:=hcg j x hx
      exact absurd hob (mr hne)
  obtain⟨Re,hown,hlive⟩:=R.enterP A ha hlm
  have hT: ∀b,ax (G.push L s.lam.length) w (aM args') (μ++[l]) vs b→ ∀t,¬aD (s.fr t) (tm.getD t undef) b:=by
    rintro b (⟨q,hb⟩|⟨lev,i,hb,rfl⟩) t ht
    · rcases hown q b hb with⟨j,x,rfl,hx,ho⟩|⟨lev,i,k,rfl,ho⟩
      · obtain⟨⟨u,hu,_⟩,_⟩:=A.own j x b hx ho
        simp at hu
      · have:=R.own (.fr t) _ b ht ho
        cases this
    · exact R.apart (.fr t) _ lev i ht (hlive lev i hb) rfl
  have hT0: ∀b,ax (G.push L s.lam.length) w (aM args') (μ++[l]) vs b→ax G w s μ tm b:=by
    rintro b (⟨q,hb⟩|⟨lev,i,hb,rfl⟩)
    · rcases hown q b hb with⟨j,x,rfl,hx,ho⟩|⟨lev,i,k,rfl,ho⟩
      · obtain⟨⟨u,hu,_⟩,_⟩:=A.own j x b hx ho
        simp at hu
      · exact .inl ⟨_,ho⟩
    · exact .inr ⟨lev,i,hlive lev i hb,rfl⟩
  have hnL: ∀i,i<G.n L→i<s.lam.length:=fun i hi=>by
    have:=R.nL
    split at this<;>omega
  have hcall:=hM (G.push L s.lam.length) w vs cpv (by rw[A.size,(fL ha).1]) (by rw[List.length_append,hμ];exact Re) (fun v e=>bk (j1 hnL) v _ (hpv v e)) ((hkn.ext E0).mono hT0)
  rw[show (μ++[l]).length=L+1 by simp[hμ]]at hcall
  refine hcall.mono ?_
  rintro e u' w' ⟨v,rfl,rfl,O',Rc,E⟩
  refine⟨v,rfl,rfl,{s with lam:=q.2,pushed:=true},q.1,(G.push L s.lam.length).withO O',hk9,?_⟩
  obtain⟨R2,h2,h3⟩:=R.mergeP (O':=O') hT rfl Rc E
  have hin: ∀b,ax ((G.push L s.lam.length).withO O') w' (aM []) (q.1++[q.2]) #[] b→(ax G w s μ tm b∨w.heap.size≤b):=fun b hb=>(E.grow b hb).imp (hT0 b) id
  refine⟨R2,E0.trans ⟨(j1 hnL).trans E.le,E.os,E.tape,E.output,E.size,fun b hb hn=>E.keep b hb fun hh=>hn (hT0 b hh),fun b hb=> ?_,fun lv hlv=> ?_⟩⟩
  · rcases hb with⟨q',hb⟩|⟨lev,i,hb,rfl⟩
    · rcases h2 q' b hb with⟨_,_,h4⟩|⟨_,h4⟩
      · exact .inl (.inl ⟨q',h4⟩)
      · exact hin b (.inl ⟨q',h4⟩)
    · exact hin _ (.inr ⟨lev,i,h3 lev i hb,rfl⟩)
  · refine⟨fun _=>⟨rfl,rfl⟩,?_⟩
    simp only[Gh.withO,Gh.push]
    rw[if_neg (by omega)]
theorem zM (hm:P.follows .mixedOrders=true)(hrho:el P W0 ρ)(hloop:j2 P W0 ρ)(hseg:mt P W0 ρ)(hdc:tH P W0 ρ){H:Hints}{f:FuncId}{fn:Func}{c:Code}{t:Nat}{args:List LV}{out:Out}(hf:P.funcs[f]? =some fn)(hb:fn.body=some c)
    (h:oh P ρ H fn c t args μ=some out):cD P W0 f args μ out:=by
  unfold oh at h
  split at h<;>try(cases h;done)
  rename_i ca id ops draw cb
  split at h<;>try(cases h;done)
  split at h<;>try(cases h;done)
  rename_i o ho
  obtain⟨hg,h⟩:=aJ.1 h
  simp only[Bool.and_eq_true,Bool.not_eq_true']at hg
  obtain⟨⟨⟨⟨⟨hg1,hg2⟩,hg3⟩,hg4⟩,hg5⟩,hg6⟩:=hg
  have hg1:=Nat.le_of_ble_eq_true hg1
  obtain⟨hgu,hdst,cc,hop,hcal,hargs⟩:=Ay hg6
  refine⟨⟨fn,_,hf,hb,hg5⟩,fun G w cargs hsz R hkn=> ?_⟩
  refine calls_of_wp_defers hf hb ?_
  have hsize:(cargs++Array.replicate (fn.ntmps-cargs.size) undef).size=fn.ntmps:=by simp;omega
  obtain⟨R1,hO⟩:=R.retm (tm':=cargs++Array.replicate (fn.ntmps-cargs.size) undef) fun t=>by
    by_cases ht:t<cargs.size
    · right
      simp[Array.getD_eq_getD_getElem?,Array.getElem?_append_left ht]
    · left
      rw[cu,List.getElem?_eq_none (by omega)]
      rfl
  have h0:G.n μ.length=0:=by simpa[aM]using R.nL
  have E1:Ext μ.length (ax G w (aM args) μ cargs) G w G w (ax G w (aM args) μ (cargs++Array.replicate (fn.ntmps-cargs.size) undef)):=Ext.refl G w fun b hb=>by
    rcases hb with⟨q,hb⟩|hb
    · exact .inl ⟨q,(hO q b).1 hb⟩
    · exact .inr hb
  have hpos:0<ops.size:=by
    have:=(Array.getElem?_eq_some_iff.1 ho).1
    omega
  have hrange:List.range ops.size=List.range (ops.size-1)++[ops.size-1]:=by
    conv=>lhs;rw[show ops.size=(ops.size-1)+1 by omega]
    rw[List.range_succ]
  have fin: ∀(pv:Option CV) (cpv:Value) (s':S) (μ':Mu) (a':Act) (w':World) (G':Gh) (vs0:Value),jD ρ t pv s' μ' (fun s μ=>fF P fn.results.toList s μ)=some out→(∀v,pv=some v→VR G' w' v cpv)→
      ∀d:Deferred,(∀f vs,vs0= .func (.func f) #[] vs→d={target:= .fn (.func f) vs,args:= #[]})→gC μ.length (ax G w (aM args) μ cargs) G w fn.ntmps ⟨[d],some (t,vs0)⟩ s' μ' a' w' G'→
      Leaves P fn a'.tmps (eX μ.length (ax G w (aM args) μ cargs) G w out) a'.defers (oC pv cpv) w':=by
    intro pv cpv s' μ' a' w' G' vs0 hdk hpv d hd hs
    obtain⟨R',E',_,⟨hk1,hk2⟩,_⟩:=hs
    obtain⟨f',vs,hval,⟨fn',c',hf',hb',hn'⟩,hcall⟩:=wT hdc hdk R' E' hkn hpv
    have hv0:=hk2 t vs0 rfl
    rw[hval]at hv0
    have hd:=hd f' vs hv0.symm
    subst hd
    rw[hk1]
    refine⟨by cases pv<;>simp[oC],.func f',vs,f',vs,rfl,?_,?_⟩
    · simp only[invoke,callFunc,Sem.run_bind,run_program,Result.andThen_ok,hf',hn',hb',Option.isNone_some,Bool.false_eq_true,if_false,Array.empty_append,Sem.run_pure]
    · refine hcall.mono ?_
      rintro e u' w2 ⟨v,rfl,rfl,s2,μ2,G2,hk,R2,E2⟩
      simp only
      rw[yF]
      simp only[Leaves]
      exact rj hk R2 E2 h0 R.ngt
  have hbw: ∀(s':S) (μ1:Mu) (a':Act) (w':World) (G':Gh) (vs0:Value),bM P ρ H cb s' μ1 (wW P ρ t fn.results.toList)=some out→
      ∀d:Deferred,(∀f vs,vs0= .func (.func f) #[] vs→d={target:= .fn (.func f) vs,args:= #[]})→gC μ.length (ax G w (aM args) μ cargs) G w fn.ntmps ⟨[d],some (t,vs0)⟩ s' μ1 a' w' G'→
      cb.wp P (bodyPostD P fn (eX μ.length (ax G w (aM args) μ cargs) G w out)) a' w':=by
    intro s' μ1 a' w' G' vs0 hx d hd hs
    refine dr hm hrho hloop hseg (L:=μ.length) (G0:=G) (w0:=w) (n:=fn.ntmps) (ds:=⟨[d],some (t,vs0)⟩) cb hg4 hkn hx hs fun st e a2 w2 hst hr=> ?_
    cases st with
    |norm s2 μ2=>
      cases e<;>simp only[StR]at hr
      obtain⟨G2,hs2⟩:=hr
      exact fin none undef s2 μ2 a2 w2 G2 vs0 hst (fun v hv=>by cases hv) d hd hs2
    |ret s2 μ2=>
      cases e<;>simp only[StR]at hr
      obtain⟨G2,hs2⟩:=hr
      exact fin none undef s2 μ2 a2 w2 G2 vs0 hst (fun v hv=>by cases hv) d hd hs2
    |exit i s2 μ2=>simp[wW]at hst
    |panic v s2 μ2=>
      cases e<;>simp only[StR]at hr
      obtain⟨G2,pv,rfl,hv,hs2⟩:=hr
      exact fin (some v) pv s2 μ2 a2 w2 G2 vs0 hst (fun v' hv'=>by injection hv' with hv';subst hv';exact hv) d hd hs2
  have hds: ∀(i:Nat) (o:Oper),ops[i]? =some o→ ∀d,o.dst=some d→d<fn.ntmps∧(Keep.mk [] none).lets d:=fun i o ho d hd=>jT (ds:=⟨[],none⟩) hg3 (by simpa using ho) d hd
  refine wp_seq (dr hm hrho hloop hseg (L:=μ.length) (T:=ax G w (aM args) μ cargs) (G0:=G) (w0:=w) (n:=fn.ntmps) (ds:=⟨[],none⟩) ca hg2 hkn h ⟨R1,E1,hsize,⟨rfl,fun _ _ e=>by cases e⟩,h0⟩ fun st e a1 w1 hst hr=> ?_)
  cases st with
  |norm s1 μ1=>
    cases e<;>simp only[StR]at hr
    obtain⟨G1,R2,E2,hn2,hk2,_⟩:=hr
    refine wp_seq (wp_region ?_)
    rw[hrange]
    refine r6 ?_
    refine gc (L:=μ.length) (G0:=G) (w0:=w) (T:=ax G w (aM args) μ cargs) (n:=fn.ntmps) (ds:=⟨[],none⟩) (r:=out) hrho hds hkn ?_ ?_ _ hst R2 E2 hn2 hk2
    · intro s3 μ3 a3 w3 G3 hx R3 E3 hn3 hk3
      simp only[za,wpOps,ho]
      have hw:Region.wanted o (yielded ops a3.tmps)=true:=by simp[Region.wanted,hgu]
      rw[if_pos hw]
      left
      have hval: ∃(dd:Deferred),(execOp a3.eval o).run P w3= .ok (.defer dd) w3∧ ∀f vs,a3.tmps.getD t undef= .func (.func f) #[] vs→dd={target:= .fn (.func f) vs,args:= #[]}:=by
        obtain⟨hic,_⟩:=aJ.1 hx
        have hv:=R3.fr t
        revert hic hv
        generalize s3.fr t=q
        intro hic hv
        cases q<;>simp only[Nq,Bool.false_eq_true]at hic
        rename_i f0 caps
        simp only[LVR]at hv
        obtain⟨vs,hvs,_⟩:=hv
        refine⟨{target:= .fn (.func f0) vs,args:= #[]},?_,fun f1 vs1 e=> ?_⟩
        · have:a3.eval (.tmp t)= .func (.func f0) #[] vs:=hvs
          simp[execOp,hop,resolve,hcal,hargs,this,Deferred.ofValue]
        · rw[hvs]at e
          injection e with e1 e2 e3
          injection e1 with e1
          rw[e1,e3]
      obtain⟨dd,hrun,hdd⟩:=hval
      unfold Oper.wp
      rw[hrun,Oper.upon_defer,hdst]
      simp only[Act.put,Exit.then]
      exact hbw s3 μ3 {a3 with defers:=dd::a3.defers} w3 G3 (a3.tmps.getD t undef) (aJ.1 hx).2 dd hdd ⟨R3,E3,hn3,⟨by rw[hk3.1],fun t' v' e=>by injection e with e;injection e with e1 e2;subst e1;exact e2⟩,h0⟩
    · intro v s3 μ3 pv3 a3 w3 G3 hx
      cases hx
  |exit i s1 μ1=>simp at hst
  |ret s1 μ1=>simp at hst
  |panic v s1 μ1=>simp at hst
def sk (E:Env)(W0:World):Prop:= ∀f g,E.prim f=some g→ ∀args μ out,g args μ=some out→cD E.P W0 f args μ out
theorem xL {E:Env}(hm:E.P.follows .mixedOrders=true)(hp:sk E W0): ∀n,el E.P W0 (evn E n)∧j2 E.P W0 (evn E n)∧mt E.P W0 (evn E n)∧tH E.P W0 (evn E n)
  |0=>⟨fun f args μ out h=>by simp[evn]at h,fun H lv c s μ st h=>by simp[evn]at h,fun H lv c s μ st h=>by simp[evn]at h,fun f pv args μ μ' h=>by simp[evn]at h⟩
  |n+1=>by
    obtain⟨h1,h2,h3,h4⟩:=xL hm hp n
    refine⟨fun f args μ out h=> ?_,fun H lv c s μ st h L G w a Q T G0 w0 k ds hc hkn hs hQ=>Bj hm h1 h2 h3 h hc hkn hs hQ,fun H lv c s μ st h L G w a Q T G0 w0 k ds hc hkn hs hQ=>Hu hm h1 h2 h3 h hc hkn hs hQ,fun f pv args μ μ' h=> ?_⟩
    · simp only[evn,aH]at h
      split at h
      · rename_i g hg
        exact hp f g hg args μ out h
      · split at h<;>try(simp at h;done)
        rename_i fn hf
        split at h<;>try(simp at h;done)
        rename_i c hb
        split at h
        · exact BT hm h1 h2 h3 hf hb h
        · exact zM hm h1 h2 h3 h4 hf hb h
    · simp only[evn,fR]at h
      split at h<;>try(simp at h;done)
      rename_i fn hf
      split at h<;>try(simp at h;done)
      rename_i c hb
      exact Ai hm h1 h2 h3 hf hb h
end
end Go.Abs
set_option linter.unusedVariables false
set_option linter.unusedSimpArgs false
namespace Go.Abs
open Go
def Lim {β:Type}(x:Nat→Option β)(y:Option β):Prop:= ∀r,y=some r→ ∃n,∀m,n≤m→x m=some r
section
variable {α β γ:Type}
theorem Lim.const (y:Option β):Lim (fun _=>y) y:=fun r h=>⟨0,fun _ _=>h⟩
theorem Lim.opt {x:Nat→Option α}{y:Option α}{k:Nat→α→Option β}{kω:α→Option β}(hx:Lim x y)(hk: ∀a,Lim (fun n=>k n a) (kω a)):Lim (fun n=>opt (x n) (k n)) (opt y kω):=by
 intro r h
 obtain⟨a,h1,h2⟩:=ab.1 h
 obtain⟨n,hn⟩:=hx a h1
 obtain⟨m,hm⟩:=hk a r h2
 exact⟨max n m,fun q hq=>ab.2 ⟨a,hn q (by omega),hm q (by omega)⟩⟩
theorem Lim.opt' {x:Option α}{k:Nat→α→Option β}{kω:α→Option β}(hk: ∀a,Lim (fun n=>k n a) (kω a)):Lim (fun n=>Abs.opt x (k n)) (Abs.opt x kω):=Lim.opt (.const x) hk
theorem Lim.guard {b:Bool}{k:Nat→Option β}{kω:Option β}(hk:Lim k kω):Lim (fun n=>ay b (k n)) (ay b kω):=by
 cases b
 ·exact .const _
 ·exact hk
theorem Lim.cond {b:Bool}{k l:Nat→Option β}{kω lω:Option β}(hk:Lim k kω)(hl:Lim l lω):Lim (fun n=>cond b (k n) (l n)) (cond b kω lω):=by
 cases b
 ·exact hl
 ·exact hk
theorem Lim.none:Lim (fun _=>(none:Option β)) none:= .const _
theorem Lim.callK {x:Nat→Option Out}{y:Option Out}{k:Nat→LV→Mu→Option β}{kω:LV→Mu→Option β}{p:Nat→CV→Mu→Option β}{pω:CV→Mu→Option β}(hx:Lim x y)
  (hk: ∀v μ,Lim (fun n=>k n v μ) (kω v μ)) (hp: ∀v μ,Lim (fun n=>p n v μ) (pω v μ)):Lim (fun n=>Abs.callK (x n) (k n) (p n)) (Abs.callK y kω pω):=by
 unfold Abs.callK
 refine Lim.opt hx fun a=> ?_
 cases a with
 |ret v μ=>exact hk v μ
 |panic v μ=>exact hp v μ
theorem xT {d:TypeDesc}{x:LV}{k:Nat→CV→Option β}{kω:CV→Option β}(hk: ∀c,Lim (fun n=>k n c) (kω c)):Lim (fun n=>iU d x (k n)) (iU d x kω):=by
 unfold iU
 cases d<;>exact Lim.opt' fun _=>hk _
theorem pR: ∀{ds:List TypeDesc} {cs:List CV} {k:Nat→List CV→Option β} {kω:List CV→Option β} (hk: ∀c,Lim (fun n=>k n c) (kω c)),Lim (fun n=>fc ds cs (k n)) (fc ds cs kω)
 |[],cs,k,kω,hk=>by unfold fc;exact Lim.opt' fun _=>hk _
 |d::ds,cs,k,kω,hk=>by
  unfold fc
  exact Lim.opt' fun _=>xT fun _=>pR fun _=>hk _
variable {P:Program}
theorem jP {t:TypeId}{x:LV}{k:Nat→CV→Option β}{kω:CV→Option β}(hk: ∀c,Lim (fun n=>k n c) (kω c)):Lim (fun n=>hZ P t x (k n)) (hZ P t x kω):=by
 unfold hZ
 cases ef P t
 ·cases P.underlying t
  ·exact .none
  ·exact xT hk
 ·exact Lim.opt' fun _=>pR fun _=>hk _
theorem vI {own:Bool}{t:TypeId}{x:LV}{k:Nat→LV→Option β}{kω:LV→Option β}(hk: ∀c,Lim (fun n=>k n c) (kω c)):Lim (fun n=>iR P own t x (k n)) (iR P own t x kω):=by
 unfold iR
 cases own
 ·exact jP fun _=>hk _
 ·exact Lim.opt' fun _=>hk _
theorem rt: ∀{ts:List TypeId} {xs:List LV} {k:Nat→List LV→Option β} {kω:List LV→Option β} (hk: ∀c,Lim (fun n=>k n c) (kω c)),Lim (fun n=>d5 P ts xs (k n)) (d5 P ts xs kω)
 |[],xs,k,kω,hk=>by unfold d5;exact Lim.opt' fun _=>hk _
 |t::ts,xs,k,kω,hk=>by
  unfold d5
  exact Lim.opt' fun _=>vI fun _=>rt fun _=>hk _
theorem jO {own:Bool}{t:TypeId}{x:LV}{k:Nat→LV→Option β}{kω:LV→Option β}(hk: ∀c,Lim (fun n=>k n c) (kω c)):Lim (fun n=>dv P own t x (k n)) (dv P own t x kω):=by
 unfold dv
 split
 ·exact Lim.opt' fun _=>rt fun _=>hk _
 ·exact vI hk
theorem Cf {b:Bool}{t:TypeId}{x:LV}{k:Nat→LV→Option β}{kω:LV→Option β}(hk: ∀c,Lim (fun n=>k n c) (kω c)):Lim (fun n=>js P b t x (k n)) (js P b t x kω):=by
 cases b with
 |true=>exact jO hk
 |false=>exact hk _
theorem JL {h:OpHint}{t:TypeId}{a:LV}{s:S}{μ:Mu}{k:Nat→LV→S→Mu→Option β}{kω:LV→S→Mu→Option β}(hk: ∀v s μ,Lim (fun n=>k n v s μ) (kω v s μ)):Lim (fun n=>f8 P h t a s μ (k n)) (f8 P h t a s μ kω):=by
 unfold f8
 split
 ·split
  ·exact .none
  ·split
   ·exact Lim.opt' fun _=>Cf fun _=>hk _ _ _
   ·exact Lim.opt' fun _=>hk _ _ _
 ·split
  ·exact Lim.opt' fun _=>Lim.opt' fun _=>hk _ _ _
  ·refine Lim.opt' fun _=> ?_
   split
   ·exact Lim.opt' fun _=>jO fun _=>hk _ _ _
   ·exact Lim.opt' fun _=>jO fun _=>hk _ _ _
 ·exact .none
theorem F8 {h:OpHint}{t:TypeId}{a v:LV}{s:S}{μ:Mu}{k:Nat→LV→S→Mu→Option β}{kω:LV→S→Mu→Option β}(hk: ∀v s μ,Lim (fun n=>k n v s μ) (kω v s μ)):Lim (fun n=>gp P h t a v s μ (k n)) (gp P h t a v s μ kω):=by
 unfold gp
 split
 ·split
  ·exact .none
  ·simp only[kH]
   exact Lim.opt' fun _=>hk _ _ _
 ·split
  ·exact .none
  ·exact Lim.opt' fun _=>Lim.guard (Lim.opt' fun _=>hk _ _ _)
 ·exact .none
theorem w7 {h:OpHint}{t:TypeId}{a:LV}{f:Nat}{k:Nat→LV→Option β}{kω:LV→Option β}(hk: ∀c,Lim (fun n=>k n c) (kω c)):Lim (fun n=>eB P h t a f (k n)) (eB P h t a f kω):=by
 unfold eB
 refine Lim.opt' fun _=> ?_
 split
 ·exact hk _
 ·split
  ·exact Lim.opt' fun _=>pR fun _=>Lim.guard (hk _)
  ·exact Lim.opt' fun _=>hk _
 ·exact .none
theorem w8 {h:OpHint}{t:TypeId}{a:LV}{i:Int}{k:Nat→LV→Option β}{kω:LV→Option β}(hk: ∀c,Lim (fun n=>k n c) (kω c)):Lim (fun n=>eD P h t a i (k n)) (eD P h t a i kω):=by
 unfold eD fO
 split
 ·refine Lim.opt' fun _=> ?_
  split
  ·exact Lim.guard (hk _)
  ·exact Lim.opt' fun _=>jP fun _=>Lim.guard (hk _)
  ·split
   ·exact Lim.opt' fun _=>Lim.opt' fun _=>jP fun _=>Lim.guard (hk _)
   ·exact Lim.opt' fun _=>Lim.guard (hk _)
  ·exact .none
 ·refine Lim.opt' fun _=> ?_
  split
  ·exact Lim.guard (hk _)
  ·split
   ·exact Lim.opt' fun _=>Lim.guard (Lim.guard (hk _))
   ·exact Lim.opt' fun _=>Lim.guard (hk _)
  ·exact .none
 ·exact .none
theorem F6 {t:TypeId}{a:LV}{i:Int}{k:Nat→LV→Option β}{kω:LV→Option β}(hk: ∀c,Lim (fun n=>k n c) (kω c)):Lim (fun n=>jG P t a i (k n)) (jG P t a i kω):=by
 unfold jG fO
 split
 ·exact Lim.opt' fun _=>Lim.opt' fun _=>hk _
 ·split
  ·exact Lim.opt' fun _=>Lim.opt' fun _=>Lim.guard (Lim.opt' fun _=>jP fun _=>hk _)
  ·exact .none
 ·exact .none
theorem fj {ev:Operand→LV}{x:Option Operand}{d:Int}{k:Nat→Int→Option β}{kω:Int→Option β}(hk: ∀c,Lim (fun n=>k n c) (kω c)):Lim (fun n=>db ev x d (k n)) (db ev x d kω):=by
 unfold db
 cases x
 ·exact hk _
 ·exact Lim.opt' fun _=>hk _
theorem F7 {t:TypeId}{x:LV}{lo hi:Option Operand}{ev:Operand→LV}{k:Nat→LV→Option β}{kω:LV→Option β}(hk: ∀c,Lim (fun n=>k n c) (kω c)):Lim (fun n=>gm P t x lo hi ev (k n)) (gm P t x lo hi ev kω):=by
 unfold gm
 split
 ·exact Lim.opt' fun _=>fj fun _=>fj fun _=>Lim.opt' fun _=>hk _
 ·refine Lim.opt' fun _=> ?_
  split
  ·exact Lim.opt' fun _=>fj fun _=>fj fun _=>Lim.guard (Lim.opt' fun _=>hk _)
  ·exact fj fun _=>fj fun _=>Lim.guard (Lim.opt' fun _=>hk _)
  ·exact fj fun _=>fj fun _=>Lim.guard (hk _)
  ·exact .none
 ·exact .none
theorem Cc {h:OpHint}{t:TypeId}{xt:Option TypeId}{x y:LV}{s:S}{μ:Mu}{k:Nat→LV→S→Mu→Option β}{kω:LV→S→Mu→Option β}(hk: ∀v s μ,Lim (fun n=>k n v s μ) (kω v s μ)):Lim (fun n=>eY P h t xt x y s μ (k n)) (eY P h t xt x y s μ kω):=by
 unfold eY
 split
 ·refine Lim.opt' fun _=>Lim.guard (Lim.opt' fun _=>Lim.guard ?_)
  cases xt
  ·exact .none
  ·refine Lim.opt' fun _=> ?_
   split
   ·exact Lim.opt' fun _=>Lim.guard (hk _ _ _)
   ·exact Lim.opt' fun _=>Lim.guard (hk _ _ _)
   ·exact .none
 ·exact .none
theorem AC {h:OpHint}{src dst:TypeId}{x:LV}{s:S}{μ:Mu}{k:Nat→LV→S→Mu→Option β}{kω:LV→S→Mu→Option β}(hk: ∀v s μ,Lim (fun n=>k n v s μ) (kω v s μ)):Lim (fun n=>cV P h src dst x s μ (k n)) (cV P h src dst x s μ kω):=by
 unfold cV
 split
 ·split
  ·exact Lim.opt' fun _=>hk _ _ _
  ·exact .none
 ·split
  ·exact Lim.opt' fun _=>hk _ _ _
  ·split
   ·split
    ·split
     ·exact Lim.guard (Lim.opt' fun _=>hk _ _ _)
     ·exact .none
    ·exact Lim.opt' fun _=>Lim.opt' fun _=>hk _ _ _
   ·exact .none
  ·exact .none
 ·split
  ·split
   ·refine Lim.opt' fun _=>Lim.guard ?_
    split
    ·exact hk _ _ _
    ·exact hk _ _ _
   ·exact .none
  ·exact .none
 ·exact .none
theorem rr {live:List (Nat×Nat)}{s:S}{k:Nat→S→Option β}{kω:S→Option β}(hk: ∀s,Lim (fun n=>k n s) (kω s)):Lim (fun n=>dF live s (k n)) (dF live s kω):=by
 unfold dF
 refine Lim.opt' fun _=> ?_
 cases s.pushed
 ·exact Lim.opt' fun _=>Lim.opt' fun _=>hk _
 ·exact hk _
theorem pT {L:Nat}{live:List (Nat×Nat)}{s:S}{k:Nat→S→Option β}{kω:S→Option β}(hk: ∀s,Lim (fun n=>k n s) (kω s)):Lim (fun n=>iQ L live s (k n)) (iQ L live s kω):=by
 unfold iQ
 split
 ·exact hk _
 ·exact Lim.guard (hk _)
theorem Lim.optE {x:Option α}{k:Nat→α→Option β}{kω:α→Option β}{g:Nat→Option β}{gω:Option β}(hk: ∀a,Lim (fun n=>k n a) (kω a))(hg:Lim g gω):Lim (fun n=>Abs.optE x (k n) (g n)) (Abs.optE x kω gω):=by
 cases x with
 |none=>exact hg
 |some a=>exact hk a
theorem sX {t:TypeId}{m x y:LV}{s:S}{μ:Mu}{k:Nat→LV→S→Mu→Option β}{kω:LV→S→Mu→Option β}(hk: ∀v s μ,Lim (fun n=>k n v s μ) (kω v s μ)):Lim (fun n=>gt P t m x y s μ (k n)) (gt P t m x y s μ kω):=by
 unfold gt
 refine Lim.opt' fun _=>Lim.opt' fun _=>Lim.opt' fun _=> ?_
 split
 ·split
  ·exact Lim.guard (hk _ _ _)
  ·exact .none
 ·split
  ·exact Lim.guard (hk _ _ _)
  ·exact .none
 ·exact .none
theorem Ce {t:TypeId}{m x:LV}{ok:Bool}{s:S}{μ:Mu}{k:Nat→LV→Option β}{kω:LV→Option β}(hk: ∀v,Lim (fun n=>k n v) (kω v)):Lim (fun n=>ip P t m x ok s μ (k n)) (ip P t m x ok s μ kω):=by
 unfold ip fO
 refine Lim.opt' fun _=>Lim.opt' fun _=>Lim.opt' fun _=>Lim.guard (Lim.optE (fun _=>jP fun _=> ?_) (Lim.opt' fun _=> ?_))
 ·cases ok<;>exact hk _
 ·cases ok<;>exact hk _
theorem Cd {x:LV}{t:TypeId}{ok:Bool}{k:Nat→LV→Option β}{kω:LV→Option β}(hk: ∀v,Lim (fun n=>k n v) (kω v)):Lim (fun n=>ii P x t ok (k n)) (ii P x t ok kω):=by
 unfold ii
 split
 ·exact .none
 ·split
  ·exact .none
  ·refine Lim.opt' fun _=> ?_
   split
   ·split<;>exact hk _
   ·exact hk _
   ·exact .none
 ·exact .none
theorem LN {op:BinOp}{t:TypeId}{x y:Operand}{a b:LV}{k:Nat→CV→Option β}{kω:CV→Option β}(hk: ∀c,Lim (fun n=>k n c) (kω c)):Lim (fun n=>nM P op t x y a b (k n)) (nM P op t x y a b kω):=by
 unfold nM
 split
 ·exact Lim.opt' fun _=>Lim.opt' fun _=>Lim.opt' fun _=>hk _
 ·exact Lim.guard (Lim.opt' fun _=>hk _)
theorem jN: ∀{ms:List Nat} {cs:List LV} {k:Nat→List LV→Option β} {kω:List LV→Option β} (hk: ∀c,Lim (fun n=>k n c) (kω c)),Lim (fun n=>fC ms cs (k n)) (fC ms cs kω)
 |[],cs,k,kω,hk=>by unfold fC;exact hk _
 |m::ms,[],k,kω,hk=>by unfold fC;exact .none
 |m::ms,c::cs,k,kω,hk=>by
  unfold fC yQ
  split
  ·exact jN fun _=>hk _
  ·exact Lim.opt' fun _=>jN fun _=>hk _
  ·exact Lim.opt' fun _=>jN fun _=>hk _
  ·exact Lim.opt' fun _=>jN fun _=>hk _
theorem mQ: ∀{obs:List (Nat×List Nat)} {s:S} {k:Nat→S→Option β} {kω:S→Option β} (hk: ∀s,Lim (fun n=>k n s) (kω s)),Lim (fun n=>kn obs s (k n)) (kn obs s kω)
 |[],s,k,kω,hk=>by unfold kn;exact hk _
 |q::r,s,k,kω,hk=>by
  unfold kn
  split
  ·exact mQ hk
  ·split
   ·exact jN fun _=>mQ hk
   ·exact .none
structure LimR (ρ:Nat→Rho) (ρω:Rho):Prop where
 call: ∀f args μ,Lim (fun n=>(ρ n).call f args μ) (ρω.call f args μ)
 loop: ∀H lv c s μ,Lim (fun n=>(ρ n).loop H lv c s μ) (ρω.loop H lv c s μ)
 seg: ∀H lv c s μ,Lim (fun n=>(ρ n).seg H lv c s μ) (ρω.seg H lv c s μ)
 dcall: ∀f pv args μ,Lim (fun n=>(ρ n).dcall f pv args μ) (ρω.dcall f pv args μ)
variable {ρ:Nat→Rho}{ρω:Rho}
theorem vG (R:LimR ρ ρω){h:OpHint}{t:TypeId}{f:FuncId}{args:List LV}{s:S}{μ:Mu}{k:Nat→LV→S→Mu→Option β}{kω:LV→S→Mu→Option β}{p:Nat→CV→S→Mu→Option β}{pω:CV→S→Mu→Option β}
  (hk: ∀v s μ,Lim (fun n=>k n v s μ) (kω v s μ)) (hp: ∀v s μ,Lim (fun n=>p n v s μ) (pω v s μ)):Lim (fun n=>fE P (ρ n) h t f args s μ (k n) (p n)) (fE P ρω h t f args s μ kω pω):=by
 unfold fE
 split
 ·exact Lim.guard (Lim.callK (R.call _ _ _) (fun _ _=>jO fun _=>hk _ _ _) fun _ _=>hp _ _ _)
 ·exact Lim.opt' fun _=>Lim.opt' fun _=>Lim.callK (R.call _ _ _) (fun _ _=>Lim.opt' fun _=>jO fun _=>hk _ _ _) fun _ _=>Lim.opt' fun _=>hp _ _ _
theorem LO (R:LimR ρ ρω){h:OpHint}{o:Oper}{s:S}{μ:Mu}{k:Nat→LV→S→Mu→Option β}{kω:LV→S→Mu→Option β}{p:Nat→CV→S→Mu→Option β}{pω:CV→S→Mu→Option β}
  (hk: ∀v s μ,Lim (fun n=>k n v s μ) (kω v s μ)) (hp: ∀v s μ,Lim (fun n=>p n v s μ) (pω v s μ)):Lim (fun n=>cH P (ρ n) h o s μ (k n) (p n)) (cH P ρω h o s μ kω pω):=by
 unfold cH
 dsimp only
 split
 ·exact hk _ _ _
 ·exact hk _ _ _
 ·exact Lim.opt' fun _=>hk _ _ _
 ·exact Lim.opt' fun _=>hk _ _ _
 ·exact Lim.opt' fun _=>hk _ _ _
 ·exact Lim.opt' fun _=>Lim.opt' fun _=>hk _ _ _
 ·split
  ·refine Lim.opt' fun _=>Lim.guard (Lim.opt' fun _=>Lim.opt' fun _=>Lim.opt' fun _=>Lim.guard (Lim.guard ?_))
   split
   ·exact hk _ _ _
   ·exact hk _ _ _
  ·exact .none
 ·exact JL hk
 ·exact F8 hk
 ·exact Lim.opt' fun _=>Lim.guard (hk _ _ _)
 ·exact LN fun _=>hk _ _ _
 ·exact Lim.opt' fun _=>hk _ _ _
 ·exact AC hk
 ·split
  ·exact .none
  ·exact Lim.opt' fun _=>hk _ _ _
  ·exact .none
 ·split
  ·split
   ·exact hk _ _ _
   ·exact .none
  ·exact .none
 ·split
  ·exact F7 fun _=>hk _ _ _
  ·exact .none
 ·exact w7 fun _=>hk _ _ _
 ·exact Lim.opt' fun _=>hk _ _ _
 ·exact Lim.opt' fun _=>w8 fun _=>hk _ _ _
 ·exact Lim.opt' fun _=>F6 fun _=>hk _ _ _
 ·exact Lim.opt' fun _=>Lim.opt' fun _=>hk _ _ _
 ·split
  ·exact hp _ _ _
  ·exact .none
 ·exact Cd fun _=>hk _ _ _
 ·split
  ·exact .none
  ·exact hk _ _ _
 ·exact sX hk
 ·exact sX hk
 ·exact Ce fun _=>hk _ _ _
 ·split
  ·split
   ·split
    ·exact Lim.opt' fun _=>hk _ _ _
    ·exact .none
   ·split
    ·exact Cc hk
    ·exact .none
   ·split
    ·exact Lim.opt' fun _=>Lim.opt' fun _=>hk _ _ _
    ·exact .none
   ·split
    ·exact Lim.opt' fun _=>Lim.opt' fun _=>hk _ _ _
    ·exact .none
   ·exact .none
  ·refine Lim.guard ?_
   split
   ·exact vG R hk hp
   ·exact vG R hk hp
   ·exact .none
  ·exact .none
 ·exact .none
theorem w9 (R:LimR ρ ρω){h:OpHint}{o:Oper}{s:S}{μ:Mu}{k:Nat→LV→S→Mu→Option β}{kω:LV→S→Mu→Option β}{p:Nat→CV→S→Mu→Option β}{pω:CV→S→Mu→Option β}
  (hk: ∀v s μ,Lim (fun n=>k n v s μ) (kω v s μ)) (hp: ∀v s μ,Lim (fun n=>p n v s μ) (pω v s μ)):Lim (fun n=>opK P (ρ n) h o s μ (k n) (p n)) (opK P ρω h o s μ kω pω):=by
 unfold opK
 exact Lim.opt' fun _=>Lim.opt' fun _=>LO R hk hp
theorem ft (R:LimR ρ ρω){H:Hints}{r:Nat}{ops:Array Oper}{p:Nat→CV→S→Mu→Option β}{pω:CV→S→Mu→Option β}(hp: ∀v s μ,Lim (fun n=>p n v s μ) (pω v s μ)):
  ∀(l:List Nat) {s:S} {μ:Mu} {k:Nat→S→Mu→Option β} {kω:S→Mu→Option β} (hk: ∀s μ,Lim (fun n=>k n s μ) (kω s μ)),Lim (fun n=>eF P (ρ n) H r ops l s μ (k n) (p n)) (eF P ρω H r ops l s μ kω pω)
 |[],s,μ,k,kω,hk=>by unfold eF;exact hk _ _
 |i::rest,s,μ,k,kω,hk=>by
  unfold eF
  cases ops[i]? with
  |none=>exact .none
  |some o=>
   dsimp only
   cases o.guard with
   |none=>exact w9 R (fun _ _ _=>ft R hp rest hk) hp
   |some g=>
    refine Lim.opt' fun _=>Lim.opt' fun q=> ?_
    cases q with
    |none=>exact ft R hp rest hk
    |some b=>
    cases b<;>dsimp only[cond_true,cond_false]
    ·cases g.2
     ·exact w9 R (fun _ _ _=>ft R hp rest hk) hp
     ·exact ft R hp rest hk
    ·cases g.2
     ·exact ft R hp rest hk
     ·exact w9 R (fun _ _ _=>ft R hp rest hk) hp
theorem eh (R:LimR ρ ρω){H:Hints}: ∀(c:Code) {β:Type} {s:S} {μ:Mu} {k:Nat→St→Option β} {kω:St→Option β} (hk: ∀st,Lim (fun n=>k n st) (kω st)),Lim (fun n=>bM P (ρ n) H c s μ (k n)) (bM P ρω H c s μ kω)
 | .skip,β,s,μ,k,kω,hk=>by unfold bM;exact hk _
 | .region id ops draw,β,s,μ,k,kω,hk=>by
  unfold bM
  cases draw
  ·exact ft R (fun _ _ _=>hk _) _ fun _ _=>hk _
  ·exact Lim.guard (ft R (fun _ _ _=> .none) _ fun _ _=>hk _)
 | .seq x y,β,s,μ,k,kω,hk=>by
  unfold bM
  refine eh R x fun st=> ?_
  cases st
  ·dsimp only
   split
   ·exact eh R y hk
   ·exact mQ fun _=>rr fun _=>pT fun _=>Lim.opt (R.seg _ _ _ _ _) hk
  ·exact hk _
  ·exact hk _
  ·exact hk _
 | .cond c x y,β,s,μ,k,kω,hk=>by
  unfold bM
  exact Lim.opt' fun _=>Lim.cond (eh R x hk) (eh R y hk)
 | .block id x,β,s,μ,k,kω,hk=>by
  unfold bM
  refine eh R x fun st=> ?_
  cases st
  ·exact hk _
  ·dsimp only
   split
   ·exact hk _
   ·exact hk _
  ·exact hk _
  ·exact hk _
 | .loop x,β,s,μ,k,kω,hk=>by
  unfold bM
  exact mQ fun _=>rr fun _=>pT fun _=>Lim.opt (R.loop _ _ _ _ _) hk
 | .exit id,β,s,μ,k,kω,hk=>by unfold bM;exact hk _
 | .ret,β,s,μ,k,kω,hk=>by unfold bM;exact hk _
 | .rangeFunc ..,β,s,μ,k,kω,hk=>by unfold bM;exact .none
 | .scope ..,β,s,μ,k,kω,hk=>by unfold bM;exact .none
 | .label ..,β,s,μ,k,kω,hk=>by unfold bM;exact .none
 | .goto ..,β,s,μ,k,kω,hk=>by unfold bM;exact .none
 | .refuse ..,β,s,μ,k,kω,hk=>by unfold bM;exact .none
theorem vH (R:LimR ρ ρω){H:Hints}{lv:List (Nat×Nat)}{c:Code}{s:S}{μ:Mu}:Lim (fun n=>ls P (ρ n) H lv c s μ) (ls P ρω H lv c s μ):=by
 unfold ls
 refine eh R c fun st=> ?_
 cases st
 ·exact mQ fun _=>rr fun _=>pT fun _=>R.loop _ _ _ _ _
 ·exact .const _
 ·exact .const _
 ·exact .const _
theorem AD (R:LimR ρ ρω){H:Hints}{lv:List (Nat×Nat)}{c:Code}{s:S}{μ:Mu}:Lim (fun n=>rP P (ρ n) H lv c s μ) (rP P ρω H lv c s μ):=by
 unfold rP
 refine eh R c fun st=> ?_
 exact .const _
theorem pS (R:LimR ρ ρω){t:Nat}{pv:Option CV}{s:S}{μ:Mu}{k:Nat→S→Mu→Option β}{kω:S→Mu→Option β}(hk: ∀s μ,Lim (fun n=>k n s μ) (kω s μ)):Lim (fun n=>jD (ρ n) t pv s μ (k n)) (jD ρω t pv s μ kω):=by
 unfold jD
 split
 ·exact Lim.opt' fun _=>Lim.opt' fun _=>Lim.opt (R.dcall _ _ _ _) fun _=>Lim.opt' fun _=>hk _ _
 ·exact .none
theorem F4 (R:LimR ρ ρω){H:Hints}{fn:Func}{c:Code}{t:Nat}{args:List LV}{μ:Mu}:Lim (fun n=>oh P (ρ n) H fn c t args μ) (oh P ρω H fn c t args μ):=by
 unfold oh
 split
 ·split
  ·exact .none
  ·split
   ·exact .none
   ·refine Lim.guard (eh R _ fun st=> ?_)
    cases st with
    |norm s μ=>
     refine ft R (fun _ _ _=> .none) _ fun _ _=>Lim.guard (eh R _ fun st=> ?_)
     cases st with
     |norm s μ=>exact pS R fun _ _=> .const _
     |ret s μ=>exact pS R fun _ _=> .const _
     |panic v s μ=>exact pS R fun _ _=> .const _
     |exit i s μ=>exact .none
    |_=>exact .none
 ·exact .none
theorem F5 (R:LimR ρ ρω){H:Hints}{fn:Func}{c:Code}{pv:Option CV}{args:List LV}{μ:Mu}:Lim (fun n=>om P (ρ n) H fn c pv args μ) (om P ρω H fn c pv args μ):=by
 unfold om
 split
 ·split
  ·exact .none
  ·split
   ·exact .none
   ·refine Lim.guard (ft R (fun _ _ _=> .none) _ fun _ _=>eh R _ fun st=> .const _)
 ·exact .none
theorem ql (R:LimR ρ ρω){E:Env}{f:FuncId}{pv:Option CV}{args:List LV}{μ:Mu}:Lim (fun n=>fR E (ρ n) f pv args μ) (fR E ρω f pv args μ):=by
 unfold fR
 split
 ·split
  ·exact F5 R
  ·exact .none
 ·exact .none
theorem rq (R:LimR ρ ρω){E:Env}{f:FuncId}{args:List LV}{μ:Mu}:Lim (fun n=>aH E (ρ n) f args μ) (aH E ρω f args μ):=by
 unfold aH
 split
 ·exact .const _
 ·split
  ·split
   ·split
    ·unfold yP
     refine Lim.guard (eh R _ fun st=> ?_)
     exact .const _
    ·exact F4 R
   ·exact .none
  ·exact .none
end
open Classical in
noncomputable def nv {β:Type}(x:Nat→Option β):Option β:=if h: ∃r n,∀m,n≤m→x m=some r then some h.choose else none
theorem ll {β:Type}(x:Nat→Option β):Lim x (nv x):=by
 intro r h
 unfold nv at h
 split at h
 ·rename_i hh
  simp only[Option.some.injEq]at h
  subst h
  exact hh.choose_spec
 ·cases h
theorem mP {β:Type}{x:Nat→Option β}{r:β}(h: ∃n,∀m,n≤m→x m=some r):nv x=some r:=by
 have hh: ∃r n,∀m,n≤m→x m=some r:=⟨r,h⟩
 unfold nv
 rw[dif_pos hh]
 obtain⟨n,hn⟩:=h
 obtain⟨k,hk⟩:=hh.choose_spec
 rw[←hk (max n k) (by omega),hn (max n k) (by omega)]
noncomputable def ev (E:Env):Rho where
 call:=fun f args μ=>nv fun n=>(evn E n).call f args μ
 loop:=fun H lv c s μ=>nv fun n=>(evn E n).loop H lv c s μ
 seg:=fun H lv c s μ=>nv fun n=>(evn E n).seg H lv c s μ
 dcall:=fun f pv args μ=>nv fun n=>(evn E n).dcall f pv args μ
theorem vw (E:Env):LimR (evn E) (ev E):=⟨fun f args μ=>ll _,fun H lv c s μ=>ll _,fun H lv c s μ=>ll _,fun f pv args μ=>ll _⟩
theorem aO {E:Env}{f:FuncId}{args:List LV}{μ:Mu}{out:Out}(h:aH E (ev E) f args μ=some out):(ev E).call f args μ=some out:=by
 obtain⟨n,hn⟩:=rq (vw E) (E:=E) (f:=f) (args:=args) (μ:=μ) out h
 refine mP ⟨n+1,fun m hm=> ?_⟩
 obtain⟨q,rfl⟩: ∃q,m=q+1:=⟨m-1,by omega⟩
 exact hn q (by omega)
theorem Od {E:Env}{H:Hints}{lv:List (Nat×Nat)}{c:Code}{s:S}{μ:Mu}{st:St}(h:ls E.P (ev E) H lv c s μ=some st):(ev E).loop H lv c s μ=some st:=by
 obtain⟨n,hn⟩:=vH (vw E) (P:=E.P) (H:=H) (lv:=lv) (c:=c) (s:=s) (μ:=μ) st h
 refine mP ⟨n+1,fun m hm=> ?_⟩
 obtain⟨q,rfl⟩: ∃q,m=q+1:=⟨m-1,by omega⟩
 exact hn q (by omega)
theorem Pz {E:Env}{H:Hints}{lv:List (Nat×Nat)}{c:Code}{s:S}{μ:Mu}{st:St}(h:rP E.P (ev E) H lv c s μ=some st):(ev E).seg H lv c s μ=some st:=by
 obtain⟨n,hn⟩:=AD (vw E) (P:=E.P) (H:=H) (lv:=lv) (c:=c) (s:=s) (μ:=μ) st h
 refine mP ⟨n+1,fun m hm=> ?_⟩
 obtain⟨q,rfl⟩: ∃q,m=q+1:=⟨m-1,by omega⟩
 exact hn q (by omega)
theorem Ar {E:Env}{f:FuncId}{pv:Option CV}{args:List LV}{μ μ':Mu}(h:fR E (ev E) f pv args μ=some μ'):(ev E).dcall f pv args μ=some μ':=by
 obtain⟨n,hn⟩:=ql (vw E) (E:=E) (f:=f) (pv:=pv) (args:=args) (μ:=μ) μ' h
 refine mP ⟨n+1,fun m hm=> ?_⟩
 obtain⟨q,rfl⟩: ∃q,m=q+1:=⟨m-1,by omega⟩
 exact hn q (by omega)
theorem As {E:Env}(hm:E.P.follows .mixedOrders=true){W0:World}(hp:sk E W0){f:FuncId}{args:List LV}{μ:Mu}{out:Out}(h:(ev E).call f args μ=some out):cD E.P W0 f args μ out:=by
 obtain⟨n,hn⟩:=ll _ out h
 exact(xL hm hp n).1 f args μ out (hn n (Nat.le_refl n))
end Go.Abs
set_option linter.unusedVariables false
set_option linter.unusedSimpArgs false
namespace Go.Abs
open Go Go.ChangeShapes Go.WideShapes
def Gh.top (w:World):Gh where
 O:=fun b=>match w.heap[b]? with|some (.cells cs _ _)=>cs.size|_=>0
 β:=fun _ _=>0
 n:=fun _=>0
 sz:=fun _ _=>0
def wL (W w':World):Prop:=W.keptBut w' (fun _=>False)∧(∀a:Addr,a.block<W.heap.size→w'.frozen? a=W.frozen? a)∧W.heap.size≤w'.heap.size∧ ∀b,b<W.heap.size→w'.heap[b]? =W.heap[b]?
theorem Oj {W w':World}(ho:w'.os=W.os)(hu:w'.output=W.output)(hs:W.heap.size≤w'.heap.size)(hk: ∀b,b<W.heap.size→w'.heap[b]? =W.heap[b]?):wL W w':=by
 refine⟨⟨ho,hu,fun i hi=> ?_⟩,fun a ha=> ?_,hs,hk⟩
 ·rw[hk i hi]
  cases W.heap[i]? with
  |none=>rfl
  |some o=>cases o<;>simp
 ·simp only[World.frozen?]
  rw[hk _ ha]
theorem Kl {H:Type}{enc:TypeId×Value→H}{P:Program}{f:Func}{s:ChangeSpec}{apart fresh handsOn again:Bool}{W W':World}{args:Array Value}{v:Value}{ds gs:List (DataW H)}{before pa pv:List MemPlace}
  (hW:DataW.Whole enc P f.params.toList s.vars apart W args.toList ds gs before)
  (hres: ∀(b:Nat) (sp:Nat→Bool) (hd:Bool),DataW.TrodAll enc P W' b sp hd f.resultTypes.toList (v.resultList f.resultTypes.size) (s.fn H (ds++gs)).results [])
  (hargs: ∀sp:Nat→Bool,(∀p∈before,sp p.block=true)→DataW.TrodAll enc P W' 0 sp true f.params.toList args.toList (s.fn H (ds++gs)).args pa)
  (hvars: ∀sp:Nat→Bool,(∀p∈before,sp p.block=true)→DataW.TrodVars enc P W' sp s.vars (s.fn H (ds++gs)).vars pv)
  (hps:before=pa++pv) (hk:wL W W')
  (hok: ∀(j:Nat) (t:TypeId) (r:Value),f.resultTypes[j]? =some t→(v.resultList f.resultTypes.size)[j]? =some r→Value.okWide P W' .any 0 t r):
  s.post enc P f apart fresh handsOn again W args v W':=by
 have hlt:=fun p hp=>hW.lt p hp
 have hold: ∀p∈before,(fun b=>decide (b<W.heap.size)) p.block=true:=fun p hp=>by simpa using hlt p hp
 refine⟨ds,gs,before,[],pa,pv,hW,hres _ _ _,hargs _ hold,hvars _ hold,World.keptBut_mono (fun _ f=>f.elim) hk.1,fun _=> ?_⟩
 obtain⟨_,_,_,_,_,hz,hn⟩:=hW
 refine⟨hok,_,_,([]++pa)++pv,⟨[]++pa,pv,trodAll_append (hargs _ (fun _ _=>rfl)) (hres _ _ _),hvars _ (fun _ _=>rfl),rfl,?_,?_⟩,?_⟩
 ·intro b off hp
  have hm:MemPlace.cell b off∈before:=by rw[hps];simpa using hp
  rw[hk.2.1 _ (hlt _ hm)]
  exact hz b off hm
 ·intro ha
  have:=hn ha
  rw[hps]at this
  simpa using this
 ·intro p hp _
  rw[hps]
  simpa using hp
section
variable {P:Program}{w:World}
theorem Rel.top {args:List CV}{cargs:Array Value}(hv: ∀j x,args[j]? =some x→VR (Gh.top w) w x (cargs.getD j undef)):Rel (Gh.top w) 0 (aM (args.map .cv)) [] cargs w∧ ∀b,¬ax (Gh.top w) w (aM (args.map .cv)) [] cargs b:=by
 have hlive: ∀lev i,¬aK (aC ([]++[(aM (args.map .cv)).lam]) lev i):=by
  intro lev i h
  obtain⟨h1,_⟩:=km (μ:=[]) h
  simp at h1
 have hown: ∀q b,¬aw (Gh.top w) w (aM (args.map .cv)).fr cargs ([]++[(aM (args.map .cv)).lam]) q b:=by
  intro q b h
  cases q with
  |fr t=>
   simp only[aw,cu,List.getElem?_map]at h
   cases hx:args[t]? with
   |none=>rw[hx]at h;simp[aD]at h
   |some x=>rw[hx]at h;simp[aD]at h
  |ob lev i k=>exact hlive lev i (fu h)
 refine⟨⟨rfl,fun t=> ?_,fun i=> ?_,fun lev i hl=>by omega,fun lev i lev' i' h _ _=>absurd h (hlive lev i),fun q q' b h _=>absurd h (hown q b),fun q b lev i h _ _=>hown q b h,fun lev hl=>by omega,?_,fun lev hl=>rfl⟩,?_⟩
 ·rw[cu,List.getElem?_map]
  cases hx:args[t]? with
  |none=>simp[LVR,VR]
  |some x=>simp only[Option.map_some,Option.getD_some,LVR];exact hv t x hx
 ·have:aG (aM (args.map .cv)).lam i= .dead:=by simp[aM,aG]
  rw[this];trivial
 ·simp[aM,Gh.top]
 ·rintro b (⟨q,h⟩|⟨lev,i,h,_⟩)
  ·exact hown q b h
  ·exact hlive lev i h
theorem cD.bool {f:FuncId}{args:List CV}{r:Bool}{μ':Mu}(hm:cD P w f (args.map .cv) [] (.ret (LV.bool r) μ')){cargs:Array Value}(hs:cargs.size=args.length)(hv: ∀j x,args[j]? =some x→VR (Gh.top w) w x (cargs.getD j undef)):
  Calls P f cargs w fun e w'=>e= .returned (.bool r)∧wL w w':=by
 obtain⟨R,hT⟩:=Rel.top hv
 refine(hm.2 (Gh.top w) w cargs (by simpa using hs) R ⟨Nat.le_refl _,fun b _=>⟨rfl,hT b⟩⟩).mono fun e w' h=> ?_
 cases e with
 |returned cv=>
  simp only[eX]at h
  obtain⟨O',R',E⟩:=h
  have h0:=R'.fr 0
  simp only[cu,List.getElem?_cons_zero,Option.getD_some,LVR,VR]at h0
  have:cv= .bool r:=by simpa using h0
  subst this
  exact⟨rfl,Oj E.os E.output E.size fun b hb=>(E.keep b hb (hT b)).1⟩
 |panicked ch=>simp[eX]at h
 |outgrown=>simp[eX]at h
end
end Go.Abs
set_option linter.unusedVariables false
namespace Go.Abs
open Go
inductive Kont where
 |seq (b:Code)
 |block (id:Nat)
def iI (P:Program)(ρ:Rho)(H:Hints){α:Type}:List Kont→St→(St→Option α)→Option α
 |[],st,k=>k st
 | .seq b::κ,st,k=>match st with
  | .norm s μ=>match FE (bJ b) H.cuts with
   |none=>bM P ρ H b s μ fun st=>iI P ρ H κ st k
   |some lv=>kn (sF (bJ b) H.objs) s fun s=>dF lv.1 s fun s=>iQ μ.length lv.1 s fun s=>opt (ρ.seg H lv.2 b s μ) fun st=>iI P ρ H κ st k
  | .exit i s μ=>iI P ρ H κ (.exit i s μ) k
  | .ret s μ=>iI P ρ H κ (.ret s μ) k
  | .panic v s μ=>iI P ρ H κ (.panic v s μ) k
 | .block id::κ,st,k=>match st with
  | .exit i s μ=>match Nat.beq i id with|true=>iI P ρ H κ (.norm s μ) k|false=>iI P ρ H κ (.exit i s μ) k
  | .norm s μ=>iI P ρ H κ (.norm s μ) k
  | .ret s μ=>iI P ρ H κ (.ret s μ) k
  | .panic v s μ=>iI P ρ H κ (.panic v s μ) k
def NX (P:Program)(rs:List ResultVar)(st:St):Option Out:=
 match st with
 | .norm s μ=>fF P rs s μ
 | .ret s μ=>fF P rs s μ
 | .panic v _ μ=>ay (below μ.length v) (some (.panic v μ))
 | .exit _ _ _=>none
def MI (P:Program)(ρ:Rho)(H:Hints)(lv:List (Nat×Nat))(c:Code)(st:St):Option St:=
 match st with
 | .norm s μ=>kn (sF (bJ c) H.objs) s fun s=>dF (H.lives (bJ c)).1 s fun s=>iQ μ.length (H.lives (bJ c)).1 s fun s=>ρ.loop H lv c s μ
 | .exit i s μ=>dF lv s fun s=>some (.exit i s μ)
 | .ret s μ=>dF H.res s fun s=>some (.ret s μ)
 | .panic v s μ=>dF H.pan s fun s=>some (.panic v s μ)
def QF (H:Hints)(lv:List (Nat×Nat))(st:St):Option St:=
 match st with
 | .norm s μ=>dF lv s fun s=>some (.norm s μ)
 | .exit i s μ=>dF lv s fun s=>some (.exit i s μ)
 | .ret s μ=>dF H.res s fun s=>some (.ret s μ)
 | .panic v s μ=>dF H.pan s fun s=>some (.panic v s μ)
def uX:Code→List Nat→Code
 |c,[]=>c
 | .seq a _,0::p=>uX a p
 | .seq _ b,_::p=>uX b p
 | .cond _ a _,0::p=>uX a p
 | .cond _ _ b,_::p=>uX b p
 | .block _ c,_::p=>uX c p
 | .loop c,_::p=>uX c p
 |c,_=>c
def Pr (P:Program)(f:FuncId):Code:=match P.funcs[f]? with|some fn=>(match fn.body with|some c=>c|none=> .skip)|none=> .skip
def Px (P:Program)(f:FuncId)(p:List Nat):Code:=uX (Pr P f) p
def y9 (P:Program)(f:FuncId):List ResultVar:=match P.funcs[f]? with|some fn=>fn.results.toList|none=>[]
def Hh {α:Type}:List (Nat×List Nat)→Lam→(Lam→Option α)→Option α
 |[],l,k=>k l
 |q::r,l,k=>match aG l q.1 with
  | .cells cs=>fC q.2 cs fun cs=>Hh r (l.set q.1 (.cells cs)) k
  |_=>none
def br (l:List UInt8):List CV:=l.map fun b=> .v (.int .u8 (b.toNat:Int))
end Go.Abs
set_option linter.unusedVariables false
set_option linter.unusedSimpArgs false
namespace Go.Abs
open Go Go.RowKit
section
variable {P:Program}{W0:World}{G:Gh}{w w':World}{L:Nat}{μ:Mu}{s:S}{tm:Array Value}
theorem Du {p:Addr}{v:Value}(h:w.cell? p=some v):p.block<w.heap.size:=by
 by_cases hp:p.block<w.heap.size
 ·exact hp
 ·exfalso
  unfold World.cell? at h
  rw[Array.getElem?_eq_none (by omega)]at h
  simp at h
theorem Ed {b:Nat}{o:Obj}(h:w.heap[b]? =some o):b<w.heap.size:=(Array.getElem?_eq_some_iff.1 h).1
theorem zy (hb:Below w.heap.size w w'):Le G w G w':=by
 refine⟨fun b es clk h h1=>⟨h,by rw[hb.block b (Ed h1)];exact h1⟩,fun lev i h=>⟨h,rfl,rfl⟩,fun b off v h h1=>⟨h,?_⟩,fun b cur e fz h=>⟨cur,fz,?_,rfl⟩⟩
 ·rw[hb.cell (p:=⟨b,off,none⟩) (Du h1)];exact h1
 ·rw[hb.block b (Ed h)];exact h
theorem Rel.later (R:Rel G L s μ tm w)(hb:Below w.heap.size w w'):Rel G L s μ tm w'∧(∀l b,aw G w' s.fr tm (μ++[s.lam]) l b→aw G w s.fr tm (μ++[s.lam]) l b):=
 R.frame (zy hb) (fun b h=>⟨hb.block b (R.touch_lt h),rfl⟩) (fun _ _ _=>⟨rfl,rfl⟩) rfl
theorem jQ {f:FuncId}{args:List LV}{v:LV}(hf: ∃fn c,P.funcs[f]? =some fn∧fn.body=some c∧(fn.name == "runtime.NumGoroutine")=false)
  (hc : ∀ (G : Gh) (w : World) (cargs : Array Value), cargs.size = args.length → (∀ j x, args[j]? = some x → LVR G w μ.length 0 x (cargs.getD j undef)) → W0.heap.size ≤ w.heap.size → (∀ b, b < W0.heap.size → w.heap[b]? = W0.heap[b]?) →
   Calls P f cargs w fun e w'=> ∃cv,e= .returned cv∧Below w.heap.size w w'∧LVR G w' μ.length 0 v cv∧ ∀b,¬aD v cv b):cD P W0 f args μ (.ret v μ):=by
 refine⟨hf,fun G w cargs hs R hkn=> ?_⟩
 refine(hc G w cargs hs (fun j x hx=> ?_) hkn.1 (fun b hb=>(hkn.2 b hb).1)).mono fun e w' h=> ?_
 ·have:=R.fr j
  rw[cu,hx]at this
  exact this
 ·obtain⟨cv,rfl,hb,hv,hno⟩:=h
  obtain⟨R1,hO⟩:=R.later hb
  have hob: ∀lev i,aC (μ++[(aM [v]).lam]) lev i=aC (μ++[(aM args).lam]) lev i:=fun _ _=>rfl
  have hown: ∀q b,aw (G.withO G.O) w' (aM [v]).fr #[cv] (μ++[(aM [v]).lam]) q b→aw G w' (aM args).fr cargs (μ++[(aM args).lam]) q b:=by
   intro q b h
   cases q with
   |fr t=>
    exfalso
    simp only[aw,cu]at h
    cases t with
    |zero=>exact hno b h
    |succ t=>simp[aD]at h
   |ob lev i k=>exact h
  refine⟨G.O,⟨R1.lev,fun t=> ?_,R1.lam,R1.mu,R1.inj,fun q q' b h h'=>R1.own q q' b (hown q b h) (hown q' b h'),fun q b lev i h h'=>R1.apart q b lev i (hown q b h) h',R1.nlt,R1.nL,R1.ngt⟩,?_⟩
  ·rw[cu]
   cases t with
   |zero=>exact hv
   |succ t=>simp[LVR,VR]
  ·refine⟨zy hb,hb.os,hb.tape,hb.output,hb.size,fun b hl _=>⟨hb.block b hl,rfl⟩,fun b h=> .inl ?_,fun _ _=>⟨fun _=>⟨rfl,rfl⟩,rfl⟩⟩
   rcases h with⟨q,h⟩|⟨lev,i,h,e⟩
   ·exact .inl ⟨q,hO q b (hown q b h)⟩
   ·exact .inr ⟨lev,i,h,e⟩
theorem sn {vals:List Value}{cargs:Array Value}(hs:cargs.size=(vals.map fun v=>LV.cv (.v v)).length)(hv: ∀j x,(vals.map fun v=>LV.cv (.v v))[j]? =some x→LVR G w L 0 x (cargs.getD j undef)):cargs=vals.toArray:=by
 simp only[List.length_map]at hs
 apply Array.ext
 ·simpa using hs
 ·intro j h1 h2
  have h3:j<vals.length:=by simpa using h2
  have:=hv j (.cv (.v vals[j])) (by simp[h3])
  simp only[LVR,VR,Array.getD_eq_getD_getElem?,Array.getElem?_eq_getElem h1,Option.getD_some]at this
  simpa using this
theorem Gb {f:FuncId}{vals:List Value}{r:Value}(hf: ∃fn c,P.funcs[f]? =some fn∧fn.body=some c∧(fn.name == "runtime.NumGoroutine")=false)
  (hc: ∀w:World,W0.heap.size≤w.heap.size→(∀b,b<W0.heap.size→w.heap[b]? =W0.heap[b]?)→Calls P f vals.toArray w fun e w'=>e= .returned r∧Below w.heap.size w w'):
  cD P W0 f (vals.map fun v=>LV.cv (.v v)) μ (.ret (.cv (.v r)) μ):=by
 refine jQ hf fun G w cargs hs hv h1 h2=> ?_
 rw[sn hs hv]
 exact(hc w h1 h2).mono fun e w' ⟨h3,h4⟩=>⟨r,h3,h4,by simp[LVR,VR],fun b h=>by simp[aD]at h⟩
end
end Go.Abs
set_option linter.unusedVariables false
namespace Go.Abs
open Go
abbrev fB:=List LV→Mu→Option Out
def sH (g:List UInt8→Option LV):fB:=fun args μ=>opt (aB args) fun q=>opt (aS q.2) fun _=>opt (aN q.1) fun s=>opt (g s) fun v=>some (.ret v μ)
def gd (g:List UInt8→List UInt8→Option LV):fB:=fun args μ=>opt (aB args) fun q=>opt (aB q.2) fun r=>opt (aS r.2) fun _=>opt (aN q.1) fun s=>opt (aN r.1) fun t=>opt (g s t) fun v=>some (.ret v μ)
def y8 (g:List UInt8→List UInt8→List UInt8→Option LV):fB:=fun args μ=>opt (aB args) fun q=>opt (aB q.2) fun r=>opt (aB r.2) fun z=>opt (aS z.2) fun _=>opt (aN q.1) fun s=>opt (aN r.1) fun t=>opt (aN z.1) fun u=>
 opt (g s t u) fun v=>some (.ret v μ)
def dO (s:List UInt8):Bool:=decide (s.length≤1000000)
def ve (s:List UInt8):Bool:=s.all fun b=>decide (b.toNat<128)
def p4:fB:=sH fun s=>ay (dO s) (some (LV.str (Lib.toUpperD s)))
def vg (err:TypeId)(s:List UInt8):LV:=match Lib.atoiAll s with
 | .ok v=> .ltup [LV.int .i64 v,.cv (.v .nilIface)]
 | .range=> .ltup [LV.int .i64 (Lib.atoiSat s),.cv (.iface err .undef)]
 |_=> .ltup [LV.int .i64 0,.cv (.iface err .undef)]
def y0 (err:TypeId):fB:=sH fun s=>ay (dO s) (some (vg err s))
def vW:fB:=fun args μ=>opt (aB args) fun q=>opt (aS q.2) fun _=>opt (aI .i64 q.1) fun n=>ay (decide (-9223372036854775808≤n)&&decide (n≤9223372036854775807)) (some (.ret (LV.str (Lib.itoa n)) μ))
def lW:fB:=gd fun s p=>some (LV.bool (Lib.hasPrefix s p))
def kJ:fB:=gd fun s p=>some (LV.str (Lib.trimPrefix s p))
def xg (s:List UInt8):Option UInt8:=match s with|[c]=>some c|_=>none
def ny:fB:=gd fun s t=>opt (xg t) fun c=>ay (decide (c.toNat<128)) (some (LV.str (Lib.trimLeftB s c)))
def lX:fB:=gd fun s t=>opt (xg t) fun c=>ay (decide (c.toNat<128)&&dO s) (some (LV.str (Lib.trimRightB s c)))
def vV:fB:=gd fun s t=>ay (dO s) (some (LV.int .i64 (Lib.index s t)))
def ye:fB:=gd fun s t=>ay (dO s) (some (LV.bool (Lib.contains s t)))
def QA:fB:=gd fun s t=>ay (dO s) (some (.ltup [LV.str (Lib.cut s t).1,LV.str (Lib.cut s t).2.1,LV.bool (Lib.cut s t).2.2]))
def yf:fB:=gd fun s t=>ay (dO s&&dO t&&ve s&&ve t) (some (LV.int .i64 (Lib.indexAny s t)))
def kI:fB:=y8 fun s old new=>ay (dO s&&dO new&&decide (1≤old.length)) (some (LV.str (Lib.replaceAll s old new)))
def gj (preds:FuncId→Option (UInt8→Bool)):fB:=fun args μ=>opt (aB args) fun q=>opt (aB q.2) fun r=>opt (aS r.2) fun _=>opt (aN q.1) fun s=>match r.1 with
 | .cv (.clo g [])=>opt (preds g) fun p=>some (.ret (LV.bool (s.any p)) μ)
 |_=>none
def p3 (bt:TypeId):fB:=fun args μ=>opt (aB args) fun q=>opt (aS q.2) fun _=>match q.1 with
 | .cv (.tref lev i t n) => ay (Nat.beq t bt && Nat.beq n 2) (match bb μ lev i with
  | .cells [a,b]=>match a with
   | .cv (.v (.pointer none))=>some (.ret (.ltup []) (ci μ lev i (.cells [.cv (.ref lev i 0),b])))
   | .cv (.ref l j 0)=>ay (Nat.beq l lev&&Nat.beq j i) (some (.ret (.ltup []) μ))
   |_=>none
  |_=>none)
 |_=>none
def xj (bt:TypeId):fB:=fun args μ=>opt (aB args) fun q=>opt (aS q.2) fun _=>match q.1 with
 | .cv (.tref lev i t n) => ay (Nat.beq t bt && Nat.beq n 2) (match bb μ lev i with
  | .cells [a,b]=>opt (fG b) fun xs=>opt (bi xs) fun s=>some (.ret (LV.str s) (ci μ lev i .dead))
  |_=>none)
 |_=>none
end Go.Abs
set_option linter.unusedVariables false
set_option maxRecDepth 1000000
namespace Go.Abs
open Go Go.Proofs
def H3:Hints:={cuts:=[(3,[(0,0),(3,0)],[(4,0)]),(5,[(0,0),(3,0)],[(4,0)])],res:=[(4,0)]}
def H4:Hints:={ops:=[((5,6),{take:=[17]}),((6,6),{take:=[23]}),((7,9),{take:=[3]}),((7,10),{take:=[6]}),((7,11),{take:=[35,36]})],cuts:=[(3,[(0,0)],[(2,0)]),(5,[(0,0)],[(2,0)])],res:=[(2,0)]}
def H5:Hints:={ops:=[((3,15),{take:=[34]}),((5,1),{take:=[46]}),((19,3),{take:=[124]}),((29,6),{take:=[176]}),((30,6),{take:=[182]}),((31,4),{take:=[12]}),((31,5),{take:=[15]}),((31,6),{take:=[189,190]})],live:=[(10,[(0,2),(1,2),(7,0),(8,0),(9,0)],[(7,0),(8,0)]),(17,[(0,2),(1,2),(7,0),(8,0),(9,0),(10,0)],[(0,2),(1,2),(7,0),(8,0),(9,0)]),(23,[(7,0),(8,0),(11,0)],[(7,0),(8,0)])],cuts:=[(3,[(0,2),(1,2)],[(4,0)]),(5,[(0,2),(1,2)],[(4,0)]),(8,[(0,2),(1,2)],[(4,0)]),(15,[(0,2),(1,2),(7,0),(8,0),(9,0)],[(0,2),(1,2),(7,0),(8,0),(9,0)]),(16,[(0,2),(1,2),(7,0),(8,0),(9,0)],[(0,2),(1,2),(7,0),(8,0),(9,0)]),(21,[(0,2),(1,2),(7,0),(8,0),(9,0),(10,0)],[(0,2),(1,2),(7,0),(8,0),(9,0),(10,0)]),(29,[(7,0),(8,0)],[(4,0)]),(33,[(13,0),(14,0),(16,0)],[(4,0)])],res:=[(4,0)]}
def H6:Hints:={cuts:=[(3,[(0,0),(1,0),(5,0)],[(6,0)]),(5,[(0,0),(1,0),(5,0)],[(6,0)]),(10,[(1,0),(5,0),(9,0),(10,0)],[(6,0)]),(13,[(5,0),(9,0),(12,0)],[(6,0)]),(15,[(5,0),(9,0)],[(6,0)])],res:=[(6,0)]}
def H7:Hints:={ops:=[((5,6),{take:=[26]}),((7,0),{take:=[3]}),((10,1),{take:=[38]}),((19,1),{take:=[62]}),((19,2),{take:=[63]}),((20,6),{take:=[70]}),((21,1),{take:=[74]}),((21,2),{take:=[75]}),((22,11),{take:=[10]}),((22,13),{take:=[90,91]}),((26,6),{take:=[113]}),((27,3),{take:=[15]}),((27,4),{take:=[3]}),((27,5),{take:=[119,120]})],live:=[(14,[(3,2),(6,0),(7,0)],[(3,2),(6,0)])],cuts:=[(3,[(0,0)],[(2,0)]),(5,[(0,0)],[(2,0)]),(8,[(3,2),(4,0)],[(2,0)]),(10,[(3,2)],[(2,0)]),(12,[(3,2)],[(2,0)]),(18,[(3,2),(6,0),(7,0)],[(3,2),(6,0),(7,0)]),(24,[(3,2),(6,0)],[(2,0)]),(26,[(3,2),(6,0)],[(2,0)])],res:=[(2,0)]}
def H8:Hints:={ops:=[((5,6),{take:=[26]}),((7,7),{take:=[37]}),((8,11),{take:=[50,51]}),((18,6),{take:=[113]}),((19,12),{take:=[15]}),((19,13),{take:=[3]}),((19,14),{take:=[128,129]})],live:=[(13,[(3,2),(6,0),(8,2),(12,0)],[(3,2),(6,0)])],cuts:=[(3,[(0,0)],[(2,0)]),(5,[(0,0)],[(2,0)]),(10,[(3,2),(6,0),(8,2),(10,0)],[(2,0)]),(12,[(3,2),(6,0),(8,2)],[(2,0)])],res:=[(2,0)]}
def H9:Hints:={ops:=[((3,1),{take:=[17]}),((5,1),{take:=[21]}),((5,2),{take:=[22]}),((6,1),{take:=[27]}),((6,2),{take:=[28]}),((7,1),{take:=[33]}),((10,1),{take:=[61]}),((13,1),{take:=[73]}),((18,6),{take:=[94]}),((19,3),{take:=[12]}),((19,4),{take:=[0]}),((19,5),{take:=[100,101]})],cuts:=[(3,[(0,2)],[(2,0)]),(5,[(0,2)],[(2,0)]),(10,[(0,2),(3,0),(4,0),(5,0),(6,0)],[(2,0)]),(13,[(0,2),(3,0),(4,0)],[(2,0)]),(16,[(0,2),(3,0),(4,0),(11,0)],[(2,0)]),(18,[(0,2),(3,0)],[(2,0)])],res:=[(2,0)]}
def H10:Hints:={cuts:=[(3,[(0,0),(1,0),(2,0)],[(6,0)]),(5,[(0,0),(1,0),(2,0)],[(6,0)]),(11,[(1,0),(2,0),(9,0),(10,0),(11,0),(12,0)],[(6,0)]),(14,[(2,0),(11,0),(12,0)],[(6,0)]),(16,[(2,0),(11,0),(12,0)],[(6,0)]),(18,[(2,0),(11,0),(12,0)],[(6,0)])],res:=[(6,0)]}
def H11:Hints:={ops:=[((1,5),{take:=[15]}),((2,0),{take:=[1]}),((2,1),{take:=[19]}),((3,5),{take:=[25]}),((6,24),{take:=[6]})]}
def H12:Hints:={cuts:=[(5,[(1,0)],[]),(13,[(0,0),(1,0),(39,0)],[])],res:=[(4,0)]}
def H13:Hints:={ops:=[((7,6),{take:=[51]}),((8,8),{take:=[5]})],cuts:=[(3,[(0,0),(1,0)],[(4,0)]),(5,[(0,0),(1,0)],[(4,0)]),(7,[(0,0),(1,0)],[(4,0)])],res:=[(4,0)]}
def H14:Hints:={ops:=[((10,7),{take:=[31]}),((10,14),{take:=[38]})],cuts:=[(6,[(1,0),(12,0)],[]),(8,[(1,0)],[]),(10,[(1,0)],[])],res:=[(2,0)]}
def H15:Hints:={ops:=[((10,3),{take:=[30]}),((10,9),{take:=[36]})]}
def H16:Hints:={}
def H17:Hints:={ops:=[((1,5),{take:=[7]})]}
def H18:Hints:={ops:=[((12,0),{take:=[6]}),((12,4),{take:=[33]}),((12,7),{take:=[37]}),((15,1),{take:=[6]}),((15,3),{take:=[43]})],live:=[(6,[(0,0),(6,1),(7,0)],[(6,1)])],cuts:=[(4,[(0,0)],[(2,2),(3,0),(4,0)]),(9,[(0,0),(6,1),(7,0)],[(0,0),(6,1),(7,0)]),(12,[(0,0),(6,1),(8,0)],[(0,0),(6,1),(7,0)])],res:=[(2,2),(3,0),(4,0)]}
def H19:Hints:={live:=[(4,[(0,2),(1,2),(5,0)],[])],cuts:=[(3,[(0,2),(1,2)],[(4,0)])],res:=[(4,0)]}
def H20:Hints:={live:=[(4,[(0,2),(3,0)],[])],cuts:=[(3,[(0,2)],[(2,0)])],res:=[(2,0)]}
def H21:Hints:={live:=[(4,[(0,2),(4,0)],[])],cuts:=[(3,[(0,2)],[(2,0),(3,0)])],res:=[(2,0),(3,0)]}
def H22:Hints:={ops:=[((2,0),{take:=[0]})],live:=[(3,[(1,0),(5,0),(8,2),(9,0),(10,0)],[(5,0)])],res:=[(4,0)]}
def H23:Hints:={}
def H24:Hints:={ops:=[((1,5),{take:=[7]})]}
def H25:Hints:={cuts:=[(4,[(0,0),(2,0),(4,0)],[(2,0),(3,0)]),(6,[(0,0),(2,0)],[(2,0),(3,0)]),(11,[(0,0),(2,0),(6,0)],[(2,0),(3,0)]),(17,[(2,0),(6,0),(11,0),(12,0)],[(2,0),(3,0)])],res:=[(2,0),(3,0)]}
def H26:Hints:={cuts:=[(3,[(0,0),(3,0)],[(4,0),(5,0)]),(5,[(0,0),(3,0)],[(4,0),(5,0)]),(7,[(0,0),(3,0)],[(4,0),(5,0)]),(10,[(0,0),(3,0),(6,0)],[(4,0),(5,0)])],res:=[(4,0),(5,0)]}
def H27:Hints:={live:=[(10,[(0,0),(2,0),(5,0),(6,0),(7,0),(8,0)],[(2,0),(5,0),(6,0),(7,0)]),(19,[(2,0),(5,0),(6,0)],[(2,0),(5,0),(6,0)])],cuts:=[(4,[(0,0),(2,0),(4,0)],[(2,0),(3,0)]),(6,[(0,0),(2,0),(4,0)],[(2,0),(3,0)]),(8,[(0,0),(2,0)],[(2,0),(3,0)])],res:=[(2,0),(3,0)]}
def H28:Hints:={cuts:=[(3,[(0,0),(3,0)],[(4,0),(5,0)]),(6,[(0,0),(3,0),(6,0)],[(4,0),(5,0)]),(8,[(0,0),(3,0),(6,0)],[(4,0),(5,0)]),(12,[(7,0),(8,0)],[(4,0),(5,0)])],res:=[(4,0),(5,0)]}
def H29:Hints:={ops:=[((1,1),{take:=[10]}),((4,0),{cell:=true}),((8,9),{push:=true}),((9,0),{push:=true}),((10,2),{push:=true}),((12,0),{push:=true}),((14,0),{push:=true})],live:=[(6,[(0,2),(6,0),(17,2),(18,0),(19,0),(1000001,0)],[(6,0)])],cuts:=[(4,[(0,2)],[(2,0),(3,0)]),(9,[(0,2),(6,0),(8,0),(17,2),(18,0),(19,0),(34,0)],[(0,2),(6,0),(8,0),(17,2),(18,0),(19,0)]),(10,[(0,2),(6,0),(8,0),(17,2),(18,0),(19,0)],[(0,2),(6,0),(17,2),(18,0),(19,0)]),(11,[(0,2),(6,0),(17,2),(18,0),(19,0)],[(0,2),(6,0),(17,2),(18,0),(19,0)]),(13,[(6,0),(41,0)],[(6,0)]),(14,[(6,0)],[(2,0),(3,0)])],objs:=[(6,[(1000000,[]),(0,[3,1])]),(9,[(0,[3,1])]),(10,[(0,[3,1])]),(11,[(0,[3,1])]),(13,[(0,[3,1])])],res:=[(2,0),(3,0)]}
def H30:Hints:={ops:=[((1,1),{take:=[0]}),((1,2),{take:=[3]}),((1,3),{take:=[5]})]}
def H31:Hints:={ops:=[((8,10),{take:=[31]}),((9,0),{take:=[7]}),((9,5),{take:=[35]}),((9,6),{take:=[40]}),((11,0),{take:=[7]})],live:=[(6,[(0,0),(4,0),(7,1),(19,0),(20,0)],[(7,1)])],cuts:=[(4,[(0,0),(4,0)],[(2,0),(3,0)])],res:=[(2,0),(3,0)]}
def H32:Hints:={ops:=[((13,7),{take:=[50]}),((19,0),{take:=[7]}),((19,10),{take:=[80]}),((19,11),{take:=[90]}),((30,0),{take:=[7]}),((30,4),{take:=[137]}),((30,14),{take:=[141]}),((31,7),{take:=[156]}),((35,0),{take:=[7]}),((35,4),{take:=[165]}),((35,11),{take:=[17]}),((35,18),{take:=[169]}),((38,1),{take:=[7]}),((38,4),{take:=[186]})],live:=[(7,[(0,0),(7,1),(8,0),(9,0)],[(7,1),(8,0)]),(20,[(0,0),(7,1),(8,0),(9,0),(12,0),(13,0)],[(0,0),(7,1),(8,0),(12,0),(13,0)])],cuts:=[(4,[(0,0)],[(2,2),(3,0),(4,0),(5,0)]),(10,[(0,0),(7,1),(8,0),(9,0)],[(0,0),(7,1),(8,0),(9,0)]),(14,[(0,0),(7,1),(8,0),(9,0),(10,0)],[(0,0),(7,1),(8,0),(9,0)]),(19,[(0,0),(7,1),(8,0),(9,0),(12,0),(13,0)],[(0,0),(7,1),(8,0),(9,0)]),(26,[(0,0),(7,1),(8,0),(9,0)],[(0,0),(7,1),(8,0),(9,0)]),(30,[(0,0),(7,1),(8,0),(9,0),(15,0)],[(0,0),(7,1),(8,0),(9,0)]),(31,[(0,0),(7,1),(8,0),(9,0)],[(0,0),(7,1),(8,0),(9,0)]),(35,[(0,0),(7,1),(8,0),(16,0),(17,2),(18,0)],[(0,0),(7,1),(8,0),(9,0)]),(38,[(7,1),(8,0)],[(2,2),(3,0),(4,0),(5,0)])],res:=[(2,2),(3,0),(4,0),(5,0)]}
def H35:Hints:={ops:=[((6,17),{take:=[30]}),((7,3),{take:=[5]}),((7,10),{take:=[36,42]})],live:=[(3,[(0,2),(3,0),(4,0)],[(3,0)])],cuts:=[(9,[(0,2),(3,0),(4,0)],[(0,2),(3,0),(4,0)])],res:=[(2,0)]}
def H36:Hints:={cuts:=[(4,[(2,0),(4,0),(5,0)],[(2,0),(3,0)]),(6,[(2,0),(4,0)],[(2,0),(3,0)])],res:=[(2,0),(3,0)]}
def H37:Hints:={cuts:=[(3,[(0,0)],[(2,0),(3,0)])],res:=[(2,0),(3,0)]}
def H38:Hints:={}
def H39:Hints:={ops:=[((1,6),{take:=[10]}),((6,0),{take:=[4]})],cuts:=[(4,[(2,0),(4,2)],[(2,0),(3,0)])],res:=[(2,0),(3,0)]}
def H40:Hints:={live:=[(5,[(0,0),(4,0),(5,0)],[(4,0)])],cuts:=[(3,[(0,0)],[(2,0),(3,0)])],res:=[(2,0),(3,0)]}
def H41:Hints:={live:=[(4,[(0,0),(5,0)],[])],cuts:=[(3,[(0,0)],[(4,0)])],res:=[(4,0)]}
def H42:Hints:={live:=[(3,[(0,0),(3,0),(4,0)],[(3,0)])],res:=[(2,0)]}
def H44:Hints:={}
def H46:Hints:={cuts:=[(4,[(2,0),(4,0)],[(2,0),(3,0)])],res:=[(2,0),(3,0)]}
def H47:Hints:={live:=[(2,[(0,0),(1,0),(5,0)],[(5,0)])],res:=[(4,0)]}
def H48:Hints:={}
def H49:Hints:={}
def H50:Hints:={ops:=[((1,0),{take:=[0]}),((1,2),{take:=[5]})]}
def H51:Hints:={ops:=[((1,1),{take:=[1]})]}
def H52:Hints:={ops:=[((1,1),{take:=[1]})]}
def H53:Hints:={live:=[(4,[(0,0),(3,0)],[])],cuts:=[(3,[(0,0)],[(2,0)])],res:=[(2,0)]}
def H54:Hints:={ops:=[((2,0),{take:=[0]})],live:=[(3,[(1,0),(5,0),(8,2),(9,0),(10,0)],[(5,0)])],res:=[(4,0)]}
def H55:Hints:={ops:=[((1,1),{take:=[1]})]}
def H56:Hints:={ops:=[((1,1),{take:=[1]})]}
def H57:Hints:={ops:=[((4,5),{take:=[24]})],cuts:=[(4,[(7,0),(8,0)],[(4,2),(5,0),(6,0)])],res:=[(4,2),(5,0),(6,0)]}
def H58:Hints:={live:=[(4,[(0,0),(1,0),(4,0),(6,0)],[(0,0),(1,0),(4,0),(6,0)]),(14,[(0,0),(1,0),(4,0),(85,2),(86,0),(87,0)],[(0,0),(1,0),(4,0)]),(20,[(0,0),(1,0),(4,0),(103,2),(104,0),(105,0)],[(4,0)]),(30,[(0,0),(1,0),(4,0),(11,0),(133,2),(134,0),(135,0)],[(0,0),(1,0),(4,0),(11,0)]),(36,[(0,0),(1,0),(4,0),(11,0),(164,2),(165,0),(166,0)],[(4,0),(11,0)])],cuts:=[(8,[(0,0),(1,0),(4,0),(6,0)],[(0,0),(1,0),(4,0)]),(11,[(0,0),(1,0),(4,0),(5,0),(60,0)],[(0,0),(1,0),(4,0)]),(28,[(0,0),(1,0),(4,0)],[(4,0)])],res:=[(4,0)]}
def H59:Hints:={live:=[(2,[(0,0),(7,2),(8,0),(9,0)],[])],res:=[(2,0),(3,0)]}
def H64:Hints:={cuts:=[(3,[(0,0)],[(2,0)])],res:=[(2,0)]}
def H65:Hints:={}
def H67:Hints:={}
def H68:Hints:={live:=[(8,[(6,0),(7,0),(8,0),(36,0),(37,0)],[(8,0)])],cuts:=[(4,[(0,0),(1,0),(6,0),(7,0)],[(4,0),(5,0)]),(6,[(6,0),(7,0)],[(4,0),(5,0)]),(12,[(6,0),(7,0),(8,0),(9,0),(36,0),(37,0)],[(6,0),(7,0),(8,0),(36,0),(37,0)])],res:=[(4,0),(5,0)]}
def H69:Hints:={live:=[(1,[(0,0)],[(0,0)])],res:=[(2,0)]}
def H70:Hints:={}
def H71:Hints:={cuts:=[(4,[(0,0)],[(0,0)]),(5,[(0,0)],[(2,0)])],res:=[(2,0)]}
def H72:Hints:={ops:=[((3,0),{take:=[0]})],live:=[(4,[(10,2),(11,0),(12,0)],[])],cuts:=[(3,[(0,2)],[(2,0),(3,0)])],res:=[(2,0),(3,0)]}
def H73:Hints:={cuts:=[(3,[(2,0),(3,0)],[(4,0)])],res:=[(4,0)]}
def H74:Hints:={ops:=[((2,3),{outer:=true}),((2,4),{cell:=true,outer:=true}),((2,7),{take:=[11]}),((2,9),{outer:=true}),((2,10),{take:=[14],outer:=true})]}
def H75:Hints:={ops:=[((2,3),{outer:=true}),((2,4),{cell:=true,outer:=true}),((2,6),{take:=[12]}),((2,8),{outer:=true}),((2,9),{take:=[14],outer:=true})]}
def H76:Hints:={ops:=[((1,2),{outer:=true}),((1,3),{outer:=true})]}
def H78:Hints:={ops:=[((4,3),{freeze:=[4]}),((5,1),{push:=true}),((7,4),{freeze:=[4]}),((8,0),{freeze:=[7]})],cuts:=[(5,[(7,0)],[(4,0),(5,0),(6,0)]),(6,[(7,0),(9,0),(10,0)],[(7,0)]),(8,[(7,0)],[(4,0),(5,0),(6,0)]),(10,[(7,0)],[(4,0),(5,0),(6,0)])],objs:=[(6,[(0,[0,0,1,1])])],res:=[(4,0),(5,0),(6,0)]}
def H79:Hints:={ops:=[((1,0),{take:=[0]}),((1,2),{take:=[5]})]}
def H80:Hints:={live:=[(3,[(0,0),(7,0),(8,0)],[(0,0),(7,0),(8,0)])],cuts:=[(9,[(7,0),(8,0)],[(4,0),(5,0),(6,0)])],res:=[(4,0),(5,0),(6,0)]}
def H81:Hints:={live:=[(4,[(0,0),(4,0),(5,0),(6,0),(7,0)],[(4,0)])],cuts:=[(8,[(0,0),(4,0),(5,0),(6,0),(7,0)],[(0,0),(4,0),(5,0),(6,0),(7,0)]),(11,[(4,0),(6,0),(7,0)],[(0,0),(4,0),(5,0),(6,0),(7,0)]),(13,[(4,0),(6,0),(7,0)],[(0,0),(4,0),(5,0),(6,0),(7,0)])],res:=[(4,0)]}
def H82:Hints:={ops:=[((7,7),{take:=[7]}),((7,10),{take:=[27]}),((7,12),{take:=[30]}),((9,1),{take:=[7]}),((9,3),{take:=[42]})],live:=[(4,[(0,0),(6,0),(7,1),(8,0)],[(6,0),(7,1)])],res:=[(4,0),(5,2)]}
def H83:Hints:={live:=[(4,[(1,0),(3,0)],[])],cuts:=[(3,[(1,0)],[(2,0)])],res:=[(2,0)]}
def H85:Hints:={}
def H86:Hints:={}
def H90:Hints:={}
def H92:Hints:={}
def H93:Hints:={}
def H94:Hints:={live:=[(2,[(0,2),(1,0),(7,0),(8,0)],[])],res:=[(4,0)]}
def H95:Hints:={live:=[(4,[(0,0),(19,0),(20,0)],[])],cuts:=[(3,[(0,0)],[(2,0)])],res:=[(2,0)]}
def H96:Hints:={}
def H97:Hints:={ops:=[((1,1),{arr:=true}),((1,2),{take:=[6]}),((5,3),{arr:=true}),((5,9),{arr:=true}),((6,5),{arr:=true}),((7,0),{take:=[3]})],live:=[(3,[(3,0),(4,0)],[(3,0)])],res:=[(2,0)]}
def H98:Hints:={ops:=[((4,0),{own:=true}),((4,2),{take:=[28]})],live:=[(5,[(0,0),(1,0),(4,0),(5,0),(6,0),(7,0),(30,2),(31,0),(32,0)],[(0,0),(1,0),(4,0),(5,0),(6,0),(7,0)])],cuts:=[(14,[(0,0),(1,0),(4,0),(5,0),(6,0),(7,0),(10,0),(11,0)],[(4,0)]),(20,[(0,0),(1,0),(4,0),(5,0),(6,0),(10,0),(11,0),(12,0),(13,0),(14,0),(15,0)],[(0,0),(1,0),(4,0),(5,0),(6,0),(10,0),(11,0),(12,0),(13,0),(14,0)]),(24,[(0,0),(1,0),(4,0),(5,0),(6,0),(10,0),(11,0),(12,0),(15,0),(16,0)],[(0,0),(1,0),(4,0),(5,0),(6,0),(10,0),(11,0),(12,0),(13,0),(14,0)]),(28,[(0,0),(1,0),(4,0),(5,0),(6,0),(10,0),(11,0),(12,0),(13,0),(14,0),(15,0),(16,0)],[(0,0),(1,0),(4,0),(5,0),(6,0),(10,0),(11,0),(12,0),(13,0),(14,0)]),(31,[(0,0),(1,0),(4,0),(5,0),(6,0),(10,0),(11,0),(12,0),(13,0),(14,0)],[(4,0)]),(34,[(0,0),(1,0),(4,0),(5,0),(6,0)],[(0,0),(1,0),(4,0),(5,0),(6,0),(10,0),(11,0),(12,0),(13,0)]),(38,[(0,0),(1,0),(4,0),(5,0),(6,0),(10,0),(11,0),(12,0),(13,0)],[(4,0)]),(41,[(0,0),(1,0),(4,0),(5,0),(6,0),(12,0),(13,0),(18,0)],[(4,0)]),(44,[(4,0),(6,0),(12,0),(13,0),(19,0),(20,0)],[(4,0)])],res:=[(4,0)]}
def H99:Hints:={}
def R0:Hints:={ops:=[((1,7),{take:=[7]})]}
def R5:Hints:={}
def R6:Hints:={}
def R7:Hints:={}
def lz:Hints:={ops:=[((2,3),{outer:=true}),((2,4),{outer:=true}),((2,10),{outer:=true}),((2,11),{outer:=true}),((4,3),{outer:=true}),((4,4),{outer:=true}),((7,3),{outer:=true}),((7,4),{cell:=true,outer:=true}),((7,7),{take:=[42]}),((7,10),{outer:=true}),((7,11),{take:=[45],outer:=true})],live:=[(2,[(0,0),(2,0),(3,0),(6,0)],[(0,0),(2,0),(3,0),(6,0)])],cuts:=[(6,[(0,0),(2,0),(3,0),(6,0)],[(0,0),(2,0),(3,0),(6,0)])],res:=[(2,0),(3,0),(6,0)],pan:=[(2,0),(3,0),(6,0)],dfr:=some 6}
def R8:Hints:={live:=[(2,[(0,2),(1,0),(7,0),(8,0)],[])],res:=[(4,0)]}
def Fa:Hints:={live:=[(3,[(0,0),(3,0),(4,0)],[(3,0)])],res:=[(2,0)]}
def R9:Hints:={}
def Sa:Hints:={}
def Sb:Hints:={}
def Fb:Hints:={live:=[(1,[(0,0)],[(0,0)])],res:=[(2,0)]}
def Sd:Hints:={}
def Se:Hints:={ops:=[((5,2),{outer:=true})]}
def ez:Hints:={ops:=[((1,2),{outer:=true}),((1,3),{outer:=true})],cuts:=[(6,[(0,0),(1,0),(4,0),(6,0)],[(4,0),(5,0)]),(18,[(4,0),(14,0),(15,0)],[(0,0),(1,0),(4,0)]),(23,[(0,0),(1,0),(4,0)],[(4,0),(5,0)])],res:=[(4,0),(5,0)]}
def tI:Hints:={ops:=[((1,2),{outer:=true}),((1,3),{outer:=true}),((3,2),{outer:=true}),((3,3),{outer:=true}),((5,2),{outer:=true}),((5,3),{outer:=true}),((5,6),{outer:=true}),((5,7),{outer:=true}),((6,7),{take:=[31]})],cuts:=[(3,[(0,0)],[(2,0)]),(5,[(0,0)],[(2,0)])],res:=[(2,0)]}
def mm:Hints:={ops:=[((6,5),{outer:=true}),((6,6),{outer:=true}),((9,2),{outer:=true}),((9,3),{outer:=true})],cuts:=[(6,[(0,0),(4,0),(10,0),(11,0)],[(4,0),(5,0),(6,0)]),(8,[(0,0),(4,0),(10,0),(11,0)],[(4,0),(5,0),(6,0)])],res:=[(4,0),(5,0),(6,0)]}
def Fc:Hints:={ops:=[((2,3),{outer:=true}),((2,4),{outer:=true}),((4,2),{outer:=true}),((4,3),{outer:=true})],cuts:=[(4,[(0,0),(1,0)],[(4,0),(5,0)])],res:=[(4,0),(5,0)]}
def tJ:Hints:={ops:=[((4,0),{take:=[8]}),((5,0),{take:=[8]}),((5,3),{take:=[28]}),((5,5),{take:=[31]})],live:=[(2,[(0,0),(1,0),(2,0),(8,1)],[])],cuts:=[(5,[(0,0),(2,0),(8,1),(9,0),(10,0)],[(0,0),(1,0),(2,0),(8,1)])],res:=[(6,0),(7,0)]}
def Sf:Hints:={}
def cT:Hints:={cuts:=[(9,[(0,0),(1,0),(4,0),(6,0),(7,0),(8,0)],[(4,0),(5,0)]),(12,[(1,0),(4,0),(6,0),(7,0),(14,0),(15,0),(16,0),(17,0)],[(4,0),(5,0)]),(14,[(1,0),(4,0),(6,0),(7,0),(14,0),(15,0),(17,0)],[(4,0),(5,0)]),(16,[(1,0),(4,0),(6,0),(7,0),(14,0),(15,0),(17,0)],[(4,0),(5,0)]),(21,[(1,0),(4,0),(14,0),(17,0),(18,0),(19,0)],[(4,0),(5,0)]),(23,[(1,0),(4,0),(18,0),(19,0)],[(4,0),(5,0)])],res:=[(4,0),(5,0)]}
def Fd:Hints:={ops:=[((7,2),{take:=[38]})],cuts:=[(4,[(0,0),(8,0)],[(4,0),(5,0),(6,0)])],res:=[(4,0),(5,0),(6,0)]}
def ju:Hints:={ops:=[((1,2),{outer:=true}),((1,3),{outer:=true}),((6,2),{outer:=true}),((6,3),{outer:=true}),((9,3),{outer:=true}),((9,4),{outer:=true}),((11,2),{outer:=true}),((11,3),{outer:=true})],live:=[(6,[(0,0),(1,0),(4,0),(6,0),(7,0),(8,0)],[(0,0),(1,0),(4,0),(7,0),(8,0)])],cuts:=[(9,[(0,0),(1,0),(4,0),(6,0),(7,0),(8,0),(9,0)],[(0,0),(1,0),(4,0),(6,0),(7,0),(8,0)]),(15,[(0,0),(1,0),(4,0),(7,0),(8,0)],[(4,0),(5,0)])],res:=[(4,0),(5,0)]}
def iH:Hints:={ops:=[((7,5),{take:=[45]}),((13,2),{take:=[65]})],cuts:=[(7,[(4,0),(6,0),(7,0),(8,0),(9,0),(10,0)],[(4,0),(5,0)]),(9,[(4,0),(6,0),(7,0)],[(4,0),(5,0)]),(13,[(4,0),(7,0),(13,0)],[(4,0),(5,0)])],res:=[(4,0),(5,0)]}
def Fe:Hints:={ops:=[((3,3),{outer:=true}),((3,4),{cell:=true,outer:=true}),((3,7),{take:=[17]}),((3,9),{outer:=true}),((3,10),{take:=[20],outer:=true})],live:=[(1,[(0,0),(2,0),(6,0)],[])],res:=[]}
def Ff:Hints:={ops:=[((1,2),{outer:=true}),((1,3),{outer:=true}),((1,8),{outer:=true}),((1,9),{outer:=true}),((1,16),{outer:=true}),((1,17),{outer:=true})],live:=[(1,[(0,0),(1,0)],[(1,0)])],res:=[(4,0)]}
def lA:Hints:={cuts:=[(5,[(0,0),(4,0),(9,0)],[(4,0),(5,0),(6,0),(7,0)]),(11,[(0,0),(4,0),(9,0),(10,0)],[(4,0),(5,0),(6,0),(7,0)])],res:=[(4,0),(5,0),(6,0),(7,0)]}
def Sg:Hints:={}
def Si:Hints:={}
def Sj:Hints:={ops:=[((1,8),{freeze:=[2]})]}
def Og:FuncId→Hints
 |3=>H3
 |4=>H4
 |5=>H5
 |6=>H6
 |7=>H7
 |8=>H8
 |9=>H9
 |10=>H10
 |11=>H11
 |12=>H12
 |13=>H13
 |14=>H14
 |15=>H15
 |16=>H16
 |17=>H17
 |18=>H18
 |19=>H19
 |20=>H20
 |21=>H21
 |22=>H22
 |23=>H23
 |24=>H24
 |25=>H25
 |26=>H26
 |27=>H27
 |28=>H28
 |29=>H29
 |30=>H30
 |31=>H31
 |32=>H32
 |35=>H35
 |36=>H36
 |37=>H37
 |38=>H38
 |39=>H39
 |40=>H40
 |41=>H41
 |42=>H42
 |44=>H44
 |46=>H46
 |47=>H47
 |48=>H48
 |49=>H49
 |50=>H50
 |51=>H51
 |52=>H52
 |53=>H53
 |54=>H54
 |55=>H55
 |56=>H56
 |57=>H57
 |58=>H58
 |59=>H59
 |64=>H64
 |65=>H65
 |67=>H67
 |68=>H68
 |69=>H69
 |70=>H70
 |71=>H71
 |72=>H72
 |73=>H73
 |74=>H74
 |75=>H75
 |76=>H76
 |78=>H78
 |79=>H79
 |80=>H80
 |81=>H81
 |82=>H82
 |83=>H83
 |85=>H85
 |86=>H86
 |90=>H90
 |92=>H92
 |93=>H93
 |94=>H94
 |95=>H95
 |96=>H96
 |97=>H97
 |98=>H98
 |99=>H99
 |100=>R0
 |112=>R5
 |114=>R6
 |117=>R7
 |118=>lz
 |119=>R8
 |120=>Fa
 |122=>R9
 |132=>Sa
 |133=>Sb
 |134=>Fb
 |135=>Sd
 |147=>Se
 |148=>ez
 |166=>tI
 |167=>mm
 |168=>Fc
 |169=>tJ
 |170=>Sf
 |171=>cT
 |172=>Fd
 |173=>ju
 |174=>iH
 |189=>Fe
 |190=>Ff
 |191=>lA
 |192=>Sg
 |193=>Si
 |196=>Sj
 |_=>{}
def lu:FuncId→Option (UInt8→Bool)
 |122=>some fun b=>decide (b.toNat<32)||decide (126<b.toNat)
 |112=>some fun b=>decide (b.toNat<48)||decide (57<b.toNat)
 |44=>some fun b=>decide (b.toNat<48)||decide (57<b.toNat)
 |92=>some fun b=> !((decide (97≤b.toNat)&&decide (b.toNat≤122))||(decide (65≤b.toNat)&&decide (b.toNat≤90))||(decide (48≤b.toNat)&&decide (b.toNat≤57))||decide (b.toNat=95))
 |_=>none
def Hp:FuncId→Option fB
 |91=>some (p4)
 |45=>some (y0 146)
 |66=>some (vW)
 |195=>some (lW)
 |194=>some (kJ)
 |62=>some (ny)
 |63=>some (lX)
 |145=>some (vV)
 |115=>some (ye)
 |61=>some (QA)
 |60=>some (yf)
 |84=>some (kI)
 |43=>some (gj lu)
 |116=>some (p3 103)
 |77=>some (xj 103)
 |_=>none
noncomputable def E:Env:={P:=Tryz.prog,hints:=Og,prim:=Hp}
def cO {β:Type}(v:LV)(k:Int→Int→List UInt8→Option β):Option β:=opt (li v) fun cs=>opt (aB cs) fun q0=>opt (aI .i64 (.cv q0.1)) fun x0=>opt (aB q0.2) fun q1=>opt (aI .i64 (.cv q1.1)) fun x1=>opt (aB q1.2) fun q2=>opt (aN (.cv q2.1)) fun x2=>opt (aS q2.2) fun _=>k x0 x1 x2
def Bd {β:Type}(v:LV)(k:Int→Int→List UInt8→Int→Int→Option β):Option β:=opt (li v) fun cs=>opt (aB cs) fun q0=>opt (aI .i64 (.cv q0.1)) fun x0=>opt (aB q0.2) fun q1=>opt (aI .i64 (.cv q1.1)) fun x1=>opt (aB q1.2) fun q2=>opt (aN (.cv q2.1)) fun x2=>opt (aB q2.2) fun q3=>opt (aI .i64 (.cv q3.1)) fun x3=>opt (aB q3.2) fun q4=>opt (aI .i64 (.cv q4.1)) fun x4=>opt (aS q4.2) fun _=>k x0 x1 x2 x3 x4
def NH {β:Type}(v:LV)(k:List UInt8→List UInt8→Option β):Option β:=opt (li v) fun cs=>opt (aB cs) fun q0=>opt (aN (.cv q0.1)) fun x0=>opt (aB q0.2) fun q1=>opt (aN (.cv q1.1)) fun x1=>opt (aS q1.2) fun _=>k x0 x1
noncomputable section
def cA (f:FuncId)(p:List Nat):Code:=Px E.P f p
def mS (fr:List (Nat×LV))(lam:Lam)(p:Bool:=false):S:={fr:=dL fr,lam:=lam,pushed:=p}
def kS (ρ:Rho)(H:Hints)(ks:List Kont)(lv:List (Nat×Nat))(st:St):Option St:=iI E.P ρ H ks st (QF H lv)
def kB (ρ:Rho)(f:FuncId)(H:Hints)(ks:List Kont)(st:St):Option Out:=iI E.P ρ H ks st (NX E.P (y9 E.P f))
def kR (ρ:Rho)(H:Hints)(ks:List Kont)(lv:List (Nat×Nat))(c:Code)(st:St):Option St:=iI E.P ρ H ks st (MI E.P ρ H lv c)
abbrev pX (f:CV→Mu→St)(v:CV)(μ:Mu):Option St:=some (f v μ)
abbrev pP (v:CV)(μ:Mu):Option Out:=ay (below μ.length v) (some (.panic v μ))
abbrev pN {α:Type}(_:CV)(_:Mu):Option α:=none
structure SegD where
 H:Hints
 lv:List (Nat×Nat)
 c:Code
 s:S
def SegD.seg (d:SegD)(ρ:Rho)(μ:Mu):Option St:=ρ.seg d.H d.lv d.c d.s μ
def SegD.loop (d:SegD)(ρ:Rho)(μ:Mu):Option St:=ρ.loop d.H d.lv d.c d.s μ
def SegD.sK (d:SegD)(ρ:Rho)(μ:Mu):Option St:=rP E.P ρ d.H d.lv d.c d.s μ
def SegD.rK (d:SegD)(ρ:Rho)(μ:Mu):Option St:=ls E.P ρ d.H d.lv d.c d.s μ
theorem aZ {d:SegD}{μ:Mu}{st:St}(h:d.sK (ev E) μ=some st):d.seg (ev E) μ=some st:=Pz h
theorem aW {d:SegD}{μ:Mu}{st:St}(h:d.rK (ev E) μ=some st):d.loop (ev E) μ=some st:=Od h
end
end Go.Abs
