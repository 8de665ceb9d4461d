/-
  The statement TokensBlanksCardSaid, proved; part 5 of 8 of its proof.
  Normal forms. Printed by a program.
  What the scanner's small functions answer.
  Classes of characters.
  What characters are, and whether a text is in a list.
  strings.ToUpper on bytes below 128: byte by byte.
  Words between dots, exponents, numbers.
  Exponents, INTEGER constants, numbers.
-/
import Derived.Test.YtfcjjankfjaapaaGreatDoorK2
import Derived.Test.YtfcjjankfjaapaaGreatDoorK3
import Derived.Lib.MapLaws
import Derived.Lib.TrimAscii
import Derived.Lib.Case
set_option linter.all false
set_option linter.unusedSectionVars false
set_option linter.unusedVariables false
set_option maxRecDepth 1000000
namespace Go.Abs
open Go Go.Proofs
noncomputable section
variable (ρ:Rho)
def Nm (x0 x1:List CV):SegD:=⟨H5,[(4,0)],cA 5 [1,1],mS [(0,LV.cv (CV.sl x0)),(1,LV.cv (CV.sl x1))] []⟩
def Pj (x0 x1:List CV)(μ:Mu):=(Nm x0 x1).seg ρ μ
def je (x4:Bool)(μ:Mu):St:= .ret (mS [(4,LV.bool x4)] []) μ
def Nn (x0 x1:List CV):SegD:=⟨H5,[(4,0)],cA 5 [1,1,1],mS [(0,LV.cv (CV.sl x0)),(1,LV.cv (CV.sl x1))] []⟩
def Pk (x0 x1:List CV)(μ:Mu):=(Nn x0 x1).seg ρ μ
def sm (x4:Bool)(μ:Mu):St:= .ret (mS [(4,LV.bool x4)] []) μ
def No (x0 x1:List CV):SegD:=⟨H5,[(4,0)],cA 5 [1,1,1,1],mS [(0,LV.cv (CV.sl x0)),(1,LV.cv (CV.sl x1))] []⟩
def Pm (x0 x1:List CV)(μ:Mu):=(No x0 x1).seg ρ μ
def vu (x0 x1:List CV)(x7 x8:List UInt8)(x9:Int):SegD:=⟨H5,[(7,0),(8,0)],cA 5 [1,1,1,1,1,0,1,0,0],mS [(0,LV.cv (CV.sl x0)),(1,LV.cv (CV.sl x1)),(7,LV.str x7),(8,LV.str x8),(9,LV.int .i64 x9)] []⟩
def jv (x0 x1:List CV)(x7 x8:List UInt8)(x9:Int)(μ:Mu):=(vu x0 x1 x7 x8 x9).loop ρ μ
def j4 (x4:Bool)(μ:Mu):St:= .ret (mS [(4,LV.bool x4)] []) μ
def IK (x0 x1:List CV)(x7 x8:List UInt8)(x9:Int):SegD:=⟨H5,[(0,2),(1,2),(7,0),(8,0),(9,0)],cA 5 [1,1,1,1,1,0,1,0,0,1,0,0,0,1,0,1],mS [(0,LV.cv (CV.sl x0)),(1,LV.cv (CV.sl x1)),(7,LV.str x7),(8,LV.str x8),(9,LV.int .i64 x9)] []⟩
def jt (x0 x1:List CV)(x7 x8:List UInt8)(x9:Int)(μ:Mu):=(IK x0 x1 x7 x8 x9).seg ρ μ
def tT (x0 x1:List CV)(x7 x8:List UInt8)(x9:Int)(μ:Mu):St:= .exit 1 (mS [(0,LV.cv (CV.sl x0)),(1,LV.cv (CV.sl x1)),(7,LV.str x7),(8,LV.str x8),(9,LV.int .i64 x9)] []) μ
def IL (x0 x1:List CV)(x7 x8:List UInt8)(x9:Int):SegD:=⟨H5,[(0,2),(1,2),(7,0),(8,0),(9,0)],cA 5 [1,1,1,1,1,0,1,0,0,1,0,0,1],mS [(0,LV.cv (CV.sl x0)),(1,LV.cv (CV.sl x1)),(7,LV.str x7),(8,LV.str x8),(9,LV.int .i64 x9)] []⟩
def yI (x0 x1:List CV)(x7 x8:List UInt8)(x9:Int)(μ:Mu):=(IL x0 x1 x7 x8 x9).seg ρ μ
def I9 (x0 x1:List CV)(x7 x8:List UInt8)(x9 x10:Int):SegD:=⟨H5,[(0,2),(1,2),(7,0),(8,0),(9,0)],cA 5 [1,1,1,1,1,0,1,0,0,1,0,0,1,1,0,0],mS [(0,LV.cv (CV.sl x0)),(1,LV.cv (CV.sl x1)),(7,LV.str x7),(8,LV.str x8),(9,LV.int .i64 x9),(10,LV.int .i64 x10)] []⟩
def Fl (x0 x1:List CV)(x7 x8:List UInt8)(x9 x10:Int)(μ:Mu):=(I9 x0 x1 x7 x8 x9 x10).loop ρ μ
def IM (x0 x1:List CV)(x7 x8:List UInt8)(x9 x10:Int):SegD:=⟨H5,[(0,2),(1,2),(7,0),(8,0),(9,0),(10,0)],cA 5 [1,1,1,1,1,0,1,0,0,1,0,0,1,1,0,0,1,0,0,1],mS [(0,LV.cv (CV.sl x0)),(1,LV.cv (CV.sl x1)),(7,LV.str x7),(8,LV.str x8),(9,LV.int .i64 x9),(10,LV.int .i64 x10)] []⟩
def E6 (x0 x1:List CV)(x7 x8:List UInt8)(x9 x10:Int)(μ:Mu):=(IM x0 x1 x7 x8 x9 x10).seg ρ μ
def tV (x0 x1:List CV)(x7 x8:List UInt8)(x9 x10:Int)(μ:Mu):St:= .norm (mS [(0,LV.cv (CV.sl x0)),(1,LV.cv (CV.sl x1)),(7,LV.str x7),(8,LV.str x8),(9,LV.int .i64 x9),(10,LV.int .i64 x10)] []) μ
def Lg (pv:CV)(μ:Mu):St:= .panic pv (mS [] []) μ
def ur (x0 x1:List CV)(x7 x8:List UInt8)(x9:Int)(μ:Mu):St:= .exit 2 (mS [(0,LV.cv (CV.sl x0)),(1,LV.cv (CV.sl x1)),(7,LV.str x7),(8,LV.str x8),(9,LV.int .i64 x9)] []) μ
def tU (x0 x1:List CV)(x7 x8:List UInt8)(x9:Int)(μ:Mu):St:= .norm (mS [(0,LV.cv (CV.sl x0)),(1,LV.cv (CV.sl x1)),(7,LV.str x7),(8,LV.str x8),(9,LV.int .i64 x9)] []) μ
def uq (x7 x8:List UInt8)(μ:Mu):St:= .exit 0 (mS [(7,LV.str x7),(8,LV.str x8)] []) μ
def md (x4:Bool)(μ:Mu):St:= .ret (mS [(4,LV.bool x4)] []) μ
def Ah (x7 x8:List UInt8)(x11:Int):SegD:=⟨H5,[(7,0),(8,0)],cA 5 [1,1,1,1,1,1,0,1,0,0],mS [(7,LV.str x7),(8,LV.str x8),(11,LV.int .i64 x11)] []⟩
def m6 (x7 x8:List UInt8)(x11:Int)(μ:Mu):=(Ah x7 x8 x11).loop ρ μ
def mC (x4:Bool)(μ:Mu):St:= .ret (mS [(4,LV.bool x4)] []) μ
def Lh (pv:CV)(μ:Mu):St:= .panic pv (mS [] []) μ
def po (x7 x8:List UInt8)(μ:Mu):St:= .exit 4 (mS [(7,LV.str x7),(8,LV.str x8)] []) μ
def IN (x7 x8:List UInt8):SegD:=⟨H5,[(4,0)],cA 5 [1,1,1,1,1,1,1,1],mS [(7,LV.str x7),(8,LV.str x8)] []⟩
def Nc (x7 x8:List UInt8)(μ:Mu):=(IN x7 x8).seg ρ μ
def mz (x4:Bool)(μ:Mu):St:= .ret (mS [(4,LV.bool x4)] []) μ
def IP (x13 x14 x16:Int):SegD:=⟨H5,[(4,0)],cA 5 [1,1,1,1,1,1,1,1,1,1,1],mS [(13,LV.int .i64 x13),(14,LV.int .i64 x14),(16,LV.int .i64 x16)] []⟩
def Nd (x13 x14 x16:Int)(μ:Mu):=(IP x13 x14 x16).seg ρ μ
def ph (x4:Bool)(μ:Mu):St:= .ret (mS [(4,LV.bool x4)] []) μ
def tW (pv:CV)(μ:Mu):St:= .panic pv (mS [] []) μ
def NQ (pv:CV)(μ:Mu):St:= .panic pv (mS [] []) μ
def NP (pv:CV)(μ:Mu):St:= .panic pv (mS [] []) μ
theorem OM (x0 x1 x7 x8 x9 μ):(IK x0 x1 x7 x8 x9).sK ρ μ=
 opt (bZ x0 x9) fun c41=>
 cO (LV.cv c41) fun n42 n43 s44=>
 ay (bn (List.length x7 + List.length s44)) (
 opt (bZ x0 x9) fun c45=>
 cO (LV.cv c45) fun n46 n47 s48=>
 ay (bn (List.length x8 + List.length s48)) (
 some (tT x0 x1 (x7++s44) (x8++s48) x9 μ))):=by kernel_rfl
theorem Gs (x0 x1 x7 x8 x9 μ):kR ρ H5 [.seq (cA 5 [1,1,1,1,1,0,1,0,0,1,0,0,1]),.block 1,.seq (cA 5 [1,1,1,1,1,0,1,0,0,1,1])] [(7,0),(8,0)] (cA 5 [1,1,1,1,1,0,1,0,0]) (tT x0 x1 x7 x8 x9 μ)=
 jv ρ x0 x1 x7 x8 (IntKind.wrap .i64 (x9+(1:Int))) μ:=by kernel_rfl
theorem OO (x0 x1 x7 x8 x9 x10 μ):(IM x0 x1 x7 x8 x9 x10).sK ρ μ=
 opt (bZ x0 x9) fun c76=>
 cO (LV.cv c76) fun n77 n78 s79=>
 opt (di s79 x10 (IntKind.wrap .i64 (x10+(1:Int)))) fun s80=>
 ay (bn (List.length x7 + List.length s80)) (
 opt (bZ x0 x9) fun c81=>
 cO (LV.cv c81) fun n82 n83 s84=>
 opt (di s84 x10 (IntKind.wrap .i64 (x10+(1:Int)))) fun s85=>
 ay (bn (List.length x8 + List.length s85)) (
 some (tV x0 x1 (x7++s80) (x8++s85) x9 x10 μ))):=by kernel_rfl
theorem vO (x0 x1 x7 x8 x9 x10 μ):kR ρ H5 [.block 3,.seq (cA 5 [1,1,1,1,1,0,1,0,0,1,0,0,1,1,0,0,1,1])] [(0,2),(1,2),(7,0),(8,0),(9,0)] (cA 5 [1,1,1,1,1,0,1,0,0,1,0,0,1,1,0,0]) (tV x0 x1 x7 x8 x9 x10 μ)=
 Fl ρ x0 x1 x7 x8 x9 (IntKind.wrap .i64 (x10+(1:Int))) μ:=by kernel_rfl
theorem xc (x0 x1 x7 x8 x9 x10 μ):(I9 x0 x1 x7 x8 x9 x10).rK ρ μ=
 opt (bZ x0 x9) fun c67=>
 cO (LV.cv c67) fun n68 n69 s70=>
 cond (decide (x10 < (List.length s70 : Int))) (
 callK (ρ.call 22 [LV.cv (CV.sl x1), LV.int .i64 (List.length x7 : Int)] μ) (fun v71 μ72 =>
 opt (aQ v71) fun b75=>
 cond (b75) (
 ay (bn (List.length x8 + List.length ([32] : List UInt8))) (
 opt (E6 ρ x0 x1 x7 (x8++([32]:List UInt8)) x9 x10 μ72) (kR ρ H5 [.block 3,.seq (cA 5 [1,1,1,1,1,0,1,0,0,1,0,0,1,1,0,0,1,1])] [(0,2),(1,2),(7,0),(8,0),(9,0)] (cA 5 [1,1,1,1,1,0,1,0,0,1,0,0,1,1,0,0])))) (
 opt (E6 ρ x0 x1 x7 x8 x9 x10 μ72) (kR ρ H5 [.block 3,.seq (cA 5 [1,1,1,1,1,0,1,0,0,1,0,0,1,1,0,0,1,1])] [(0,2),(1,2),(7,0),(8,0),(9,0)] (cA 5 [1,1,1,1,1,0,1,0,0,1,0,0,1,1,0,0])))) (pX Lg)) (
 some (ur x0 x1 x7 x8 x9 μ)):=by kernel_rfl
theorem GZ (x0 x1 x7 x8 x9 μ):kS ρ H5 [.block 2] [(0,2),(1,2),(7,0),(8,0),(9,0)] (ur x0 x1 x7 x8 x9 μ)=
 some (tU x0 x1 x7 x8 x9 μ):=by kernel_rfl
theorem ON (x0 x1 x7 x8 x9 μ):(IL x0 x1 x7 x8 x9).sK ρ μ=
 opt (Fl ρ x0 x1 x7 x8 x9 (0:Int) μ) (kS ρ H5 [.block 2] [(0,2),(1,2),(7,0),(8,0),(9,0)]):=by kernel_rfl
theorem Gt (x0 x1 x7 x8 x9 μ):kR ρ H5 [.block 1,.seq (cA 5 [1,1,1,1,1,0,1,0,0,1,1])] [(7,0),(8,0)] (cA 5 [1,1,1,1,1,0,1,0,0]) (tU x0 x1 x7 x8 x9 μ)=
 jv ρ x0 x1 x7 x8 (IntKind.wrap .i64 (x9+(1:Int))) μ:=by kernel_rfl
theorem xb (x0 x1 x7 x8 x9 μ):(vu x0 x1 x7 x8 x9).rK ρ μ=
 cond (decide (x9 < (List.length x0 : Int))) (
 opt (bZ x0 x9) fun c25=>
 cO (LV.cv c25) fun n26 n27 s28=>
 cond (decide (n26 = (1 : Int))) (
 opt (bZ x0 x9) fun c29=>
 cO (LV.cv c29) fun n30 n31 s32=>
 cond (decide (n31 = (6 : Int))) (
 cond (decide ((0 : Int) < x9)) (
 opt (bZ x0 (IntKind.wrap .i64 (x9-(1:Int)))) fun c33=>
 cO (LV.cv c33) fun n34 n35 s36=>
 cond (decide (n34 = (1 : Int))) (
 opt (bZ x0 (IntKind.wrap .i64 (x9-(1:Int)))) fun c37=>
 cO (LV.cv c37) fun n38 n39 s40=>
 cond (decide (n39 = (6 : Int))) (
 some (j4 true μ)) (
 opt (jt ρ x0 x1 x7 x8 x9 μ) (kR ρ H5 [.seq (cA 5 [1,1,1,1,1,0,1,0,0,1,0,0,1]),.block 1,.seq (cA 5 [1,1,1,1,1,0,1,0,0,1,1])] [(7,0),(8,0)] (cA 5 [1,1,1,1,1,0,1,0,0])))) (
 opt (jt ρ x0 x1 x7 x8 x9 μ) (kR ρ H5 [.seq (cA 5 [1,1,1,1,1,0,1,0,0,1,0,0,1]),.block 1,.seq (cA 5 [1,1,1,1,1,0,1,0,0,1,1])] [(7,0),(8,0)] (cA 5 [1,1,1,1,1,0,1,0,0])))) (
 opt (jt ρ x0 x1 x7 x8 x9 μ) (kR ρ H5 [.seq (cA 5 [1,1,1,1,1,0,1,0,0,1,0,0,1]),.block 1,.seq (cA 5 [1,1,1,1,1,0,1,0,0,1,1])] [(7,0),(8,0)] (cA 5 [1,1,1,1,1,0,1,0,0])))) (
 opt (bZ x0 x9) fun c52=>
 cO (LV.cv c52) fun n53 n54 s55=>
 cond (decide (s55 = ([] : List UInt8))) (
 cond (decide ((0 : Int) < x9)) (
 opt (bZ x0 (IntKind.wrap .i64 (x9-(1:Int)))) fun c56=>
 cO (LV.cv c56) fun n57 n58 s59=>
 cond (decide (n57 = (1 : Int))) (
 opt (bZ x0 (IntKind.wrap .i64 (x9-(1:Int)))) fun c60=>
 cO (LV.cv c60) fun n61 n62 s63=>
 cond (decide (n62 = (6 : Int))) (
 some (j4 true μ)) (
 opt (jt ρ x0 x1 x7 x8 x9 μ) (kR ρ H5 [.seq (cA 5 [1,1,1,1,1,0,1,0,0,1,0,0,1]),.block 1,.seq (cA 5 [1,1,1,1,1,0,1,0,0,1,1])] [(7,0),(8,0)] (cA 5 [1,1,1,1,1,0,1,0,0])))) (
 opt (jt ρ x0 x1 x7 x8 x9 μ) (kR ρ H5 [.seq (cA 5 [1,1,1,1,1,0,1,0,0,1,0,0,1]),.block 1,.seq (cA 5 [1,1,1,1,1,0,1,0,0,1,1])] [(7,0),(8,0)] (cA 5 [1,1,1,1,1,0,1,0,0])))) (
 opt (jt ρ x0 x1 x7 x8 x9 μ) (kR ρ H5 [.seq (cA 5 [1,1,1,1,1,0,1,0,0,1,0,0,1]),.block 1,.seq (cA 5 [1,1,1,1,1,0,1,0,0,1,1])] [(7,0),(8,0)] (cA 5 [1,1,1,1,1,0,1,0,0])))) (
 opt (yI ρ x0 x1 x7 x8 x9 μ) (kR ρ H5 [.block 1,.seq (cA 5 [1,1,1,1,1,0,1,0,0,1,1])] [(7,0),(8,0)] (cA 5 [1,1,1,1,1,0,1,0,0]))))) (
 opt (bZ x0 x9) fun c90=>
 cO (LV.cv c90) fun n91 n92 s93=>
 cond (decide (s93 = ([] : List UInt8))) (
 cond (decide ((0 : Int) < x9)) (
 opt (bZ x0 (IntKind.wrap .i64 (x9-(1:Int)))) fun c94=>
 cO (LV.cv c94) fun n95 n96 s97=>
 cond (decide (n95 = (1 : Int))) (
 opt (bZ x0 (IntKind.wrap .i64 (x9-(1:Int)))) fun c98=>
 cO (LV.cv c98) fun n99 n100 s101=>
 cond (decide (n100 = (6 : Int))) (
 some (j4 true μ)) (
 opt (jt ρ x0 x1 x7 x8 x9 μ) (kR ρ H5 [.seq (cA 5 [1,1,1,1,1,0,1,0,0,1,0,0,1]),.block 1,.seq (cA 5 [1,1,1,1,1,0,1,0,0,1,1])] [(7,0),(8,0)] (cA 5 [1,1,1,1,1,0,1,0,0])))) (
 opt (jt ρ x0 x1 x7 x8 x9 μ) (kR ρ H5 [.seq (cA 5 [1,1,1,1,1,0,1,0,0,1,0,0,1]),.block 1,.seq (cA 5 [1,1,1,1,1,0,1,0,0,1,1])] [(7,0),(8,0)] (cA 5 [1,1,1,1,1,0,1,0,0])))) (
 opt (jt ρ x0 x1 x7 x8 x9 μ) (kR ρ H5 [.seq (cA 5 [1,1,1,1,1,0,1,0,0,1,0,0,1]),.block 1,.seq (cA 5 [1,1,1,1,1,0,1,0,0,1,1])] [(7,0),(8,0)] (cA 5 [1,1,1,1,1,0,1,0,0])))) (
 opt (yI ρ x0 x1 x7 x8 x9 μ) (kR ρ H5 [.block 1,.seq (cA 5 [1,1,1,1,1,0,1,0,0,1,1])] [(7,0),(8,0)] (cA 5 [1,1,1,1,1,0,1,0,0]))))) (
 some (uq x7 x8 μ)):=by kernel_rfl
theorem GX (x4 μ):kS ρ H5 [.block 0,.seq (cA 5 [1,1,1,1,1,1])] [(4,0)] (j4 x4 μ)=
 some (md x4 μ):=by kernel_rfl
theorem xd (x7 x8 x11 μ):(Ah x7 x8 x11).rK ρ μ=
 cond (decide (x11 < (List.length x7 : Int))) (
 opt (bo x7 x11) fun y106=>
 cond (decide ((y106.toNat : Int) = (72 : Int))) (
 opt (bo x7 (IntKind.wrap .i64 (x11-(1:Int)))) fun y107=>
 callK (ρ.call 23 [LV.int .i64 (IntKind.wrap .i64 (y107.toNat : Int)), LV.int .i64 (48 : Int), LV.int .i64 (57 : Int)] μ) (fun v108 μ109 =>
 opt (aQ v108) fun b112=>
 cond (b112) (
 some (mC true μ109)) (
 m6 ρ x7 x8 (IntKind.wrap .i64 (x11+(1:Int))) μ109)) (pX Lh)) (
 m6 ρ x7 x8 (IntKind.wrap .i64 (x11+(1:Int))) μ)) (
 some (po x7 x8 μ)):=by kernel_rfl
theorem G5 (x4 μ):kS ρ H5 [.block 4,.seq (cA 5 [1,1,1,1,1,1,1])] [(4,0)] (mC x4 μ)=
 some (md x4 μ):=by kernel_rfl
theorem OQ (x13 x14 x16 μ):(IP x13 x14 x16).sK ρ μ=
 cond (!decide (x14 = (0 : Int))) (
 some (ph true μ)) (
 some (ph (decide (x13=x16)) μ)):=by kernel_rfl
theorem Gv (x4 μ):kS ρ H5 [] [(4,0)] (ph x4 μ)=
 some (mz x4 μ):=by kernel_rfl
theorem OP (x7 x8 μ):(IN x7 x8).sK ρ μ=
 callK (ρ.call 24 [LV.str x7] μ) (fun v113 μ114 =>
 opt (aX v113) fun xs117=>
 opt (aB xs117) fun q118=>
 opt (cF q118.1) fun l119=>
 opt (aB q118.2) fun q120=>
 opt (aI .i64 q120.1) fun n121=>
 opt (aB q120.2) fun q122=>
 opt (aI .i64 q122.1) fun n123=>
 opt (aS q122.2) fun u124=>
 callK (ρ.call 24 [LV.str x8] μ114) (fun v125 μ126 =>
 opt (aX v125) fun xs129=>
 opt (aB xs129) fun q130=>
 opt (cF q130.1) fun l131=>
 opt (aB q130.2) fun q132=>
 opt (aI .i64 q132.1) fun n133=>
 opt (aB q132.2) fun q134=>
 opt (aI .i64 q134.1) fun n135=>
 opt (aS q134.2) fun u136=>
 cond (!decide (n123 = n135)) (
 some (mz false μ126)) (
 callK (ρ.call 19 [LV.cv (CV.sl l119), LV.cv (CV.sl l131)] μ126) (fun v137 μ138 =>
 opt (aQ v137) fun b141=>
 cond (!b141) (
 some (mz false μ138)) (
 opt (Nd ρ n121 n123 n133 μ138) (kS ρ H5 [] [(4,0)]))) (pX tW))) (pX tW)) (pX tW):=by kernel_rfl
theorem Gu (x4 μ):kS ρ H5 [] [(4,0)] (mz x4 μ)=
 some (md x4 μ):=by kernel_rfl
theorem G6 (x7 x8 μ):kS ρ H5 [.block 4,.seq (cA 5 [1,1,1,1,1,1,1])] [(4,0)] (po x7 x8 μ)=
 cond (decide ((1320 : Int) < (List.length x8 : Int))) (
 some (md true μ)) (
 opt (Nc ρ x7 x8 μ) (kS ρ H5 [] [(4,0)])):=by kernel_rfl
theorem GY (x7 x8 μ):kS ρ H5 [.block 0,.seq (cA 5 [1,1,1,1,1,1])] [(4,0)] (uq x7 x8 μ)=
 opt (m6 ρ x7 x8 (1:Int) μ) (kS ρ H5 [.block 4,.seq (cA 5 [1,1,1,1,1,1,1])] [(4,0)]):=by kernel_rfl
theorem Qt (x0 x1 μ):(No x0 x1).sK ρ μ=
 opt (jv ρ x0 x1 ([]:List UInt8) ([]:List UInt8) (0:Int) μ) (kS ρ H5 [.block 0,.seq (cA 5 [1,1,1,1,1,1])] [(4,0)]):=by kernel_rfl
theorem J7 (x4 μ):kS ρ H5 [] [(4,0)] (md x4 μ)=
 some (sm x4 μ):=by kernel_rfl
theorem Qs (x0 x1 μ):(Nn x0 x1).sK ρ μ=
 callK (ρ.call 21 [LV.cv (CV.sl x0)] μ) (fun v15 μ16 =>
 opt (aX v15) fun xs19=>
 opt (aB xs19) fun q20=>
 opt (aI .i64 q20.1) fun n21=>
 opt (aB q20.2) fun q22=>
 opt (aI .i64 q22.1) fun n23=>
 opt (aS q22.2) fun u24=>
 cond (!decide (n23 = (0 : Int))) (
 some (sm true μ16)) (
 opt (Pm ρ x0 x1 μ16) (kS ρ H5 [] [(4,0)]))) (pX NQ):=by kernel_rfl
theorem J6 (x4 μ):kS ρ H5 [] [(4,0)] (sm x4 μ)=
 some (je x4 μ):=by kernel_rfl
theorem Qr (x0 x1 μ):(Nm x0 x1).sK ρ μ=
 cond (decide ((List.length x0 : Int) = (0 : Int))) (
 some (je true μ)) (
 cond (decide ((30 : Int) < (List.length x0 : Int))) (
 some (je true μ)) (
 cond (decide ((30 : Int) < (List.length x1 : Int))) (
 some (je true μ)) (
 callK (ρ.call 20 [LV.cv (CV.sl x0)] μ) (fun v6 μ7 =>
 opt (aQ v6) fun b10=>
 cond (!b10) (
 some (je true μ7)) (
 opt (bZ x0 (0:Int)) fun c11=>
 cO (LV.cv c11) fun n12 n13 s14=>
 cond (!decide (n12 = (0 : Int))) (
 some (je true μ7)) (
 opt (Pk ρ x0 x1 μ7) (kS ρ H5 [] [(4,0)])))) (pX NP)))):=by kernel_rfl
theorem J5 (x4 μ):kB ρ 5 H5 [] (je x4 μ)=
 some (.ret (LV.bool x4) μ):=by kernel_rfl
theorem nf5 (a b μ):aH E ρ 5 [LV.cv (CV.sl a),LV.cv (CV.sl b)] μ=
 callK (ρ.call 11 [] μ) (fun v1 μ2 =>
 opt (aQ v1) fun b5=>
 cond (!b5) (
 some (.ret (LV.bool false) μ2)) (
 opt (Pj ρ a b μ2) (kB ρ 5 H5 []))) pP:=by kernel_rfl
def Iy (x0:Int)(x1:List UInt8):SegD:=⟨H13,[(4,0)],cA 13 [1,1],mS [(0,LV.int .i64 x0),(1,LV.str x1)] []⟩
def M3 (x0:Int)(x1:List UInt8)(μ:Mu):=(Iy x0 x1).seg ρ μ
def mv (x4:Int)(μ:Mu):St:= .ret (mS [(4,LV.int .i64 x4)] []) μ
def Iz (x0:Int)(x1:List UInt8):SegD:=⟨H13,[(4,0)],cA 13 [1,1,1],mS [(0,LV.int .i64 x0),(1,LV.str x1)] []⟩
def sb (x0:Int)(x1:List UInt8)(μ:Mu):=(Iz x0 x1).seg ρ μ
def mw (x4:Int)(μ:Mu):St:= .ret (mS [(4,LV.int .i64 x4)] []) μ
def IA (x0:Int)(x1:List UInt8):SegD:=⟨H13,[(4,0)],cA 13 [1,1,1,1],mS [(0,LV.int .i64 x0),(1,LV.str x1)] []⟩
def M4 (x0:Int)(x1:List UInt8)(μ:Mu):=(IA x0 x1).seg ρ μ
def j3 (x4:Int)(μ:Mu):St:= .ret (mS [(4,LV.int .i64 x4)] []) μ
def K8 (pv:CV)(μ:Mu):St:= .panic pv (mS [] []) μ
def K7 (pv:CV)(μ:Mu):St:= .panic pv (mS [] []) μ
def K6 (pv:CV)(μ:Mu):St:= .panic pv (mS [] []) μ
theorem OD (x0 x1 μ):(IA x0 x1).sK ρ μ=
 callK (ρ.call 18 [LV.str x1] μ) (fun v17 μ18 =>
 opt (aX v17) fun xs21=>
 opt (aB xs21) fun q22=>
 opt (cF q22.1) fun l23=>
 opt (aB q22.2) fun q24=>
 opt (aI .i64 q24.1) fun n25=>
 opt (aB q24.2) fun q26=>
 opt (aI .i64 q26.1) fun n27=>
 opt (aS q26.2) fun u28=>
 cond (!decide (n27 = (0 : Int))) (
 some (j3 (3:Int) μ18)) (
 cond (!decide ((List.length l23 : Int) = (1 : Int))) (
 some (j3 (3:Int) μ18)) (
 opt (bZ l23 (0:Int)) fun c29=>
 cO (LV.cv c29) fun n30 n31 s32=>
 cond (!(decide (n30 = (1 : Int)) && (decide (n31 = x0) && (decide (s32 = x1) && true)))) (
 some (j3 (3:Int) μ18)) (
 some (j3 (0:Int) μ18))))) (pX K8):=by kernel_rfl
theorem Gf (x4 μ):kS ρ H13 [] [(4,0)] (j3 x4 μ)=
 some (mw x4 μ):=by kernel_rfl
theorem OC (x0 x1 μ):(Iz x0 x1).sK ρ μ=
 cond (decide ((122 : Int) < (List.length x1 : Int))) (
 some (mw (3:Int) μ)) (
 callK (ρ.call 48 [LV.str x1] μ) (fun v12 μ13 =>
 opt (aI .i64 v12) fun n16=>
 cond (!decide (n16 = (0 : Int))) (
 some (mw (3:Int) μ13)) (
 opt (M4 ρ x0 x1 μ13) (kS ρ H13 [] [(4,0)]))) (pX K7)):=by kernel_rfl
theorem Ge (x4 μ):kS ρ H13 [] [(4,0)] (mw x4 μ)=
 some (mv x4 μ):=by kernel_rfl
theorem OB (x0 x1 μ):(Iy x0 x1).sK ρ μ=
 cond (decide (x0 = (0 : Int))) (
 cond (decide ((List.length x1 : Int) = (10 : Int))) (
 callK (ρ.call 47 [LV.str x1, LV.int .i64 (0 : Int)] μ) (fun v6 μ7 =>
 opt (aI .i64 v6) fun n10=>
 cond (decide (n10 = (10 : Int))) (
 opt (bo x1 (0:Int)) fun y11=>
 cond (!decide ((y11.toNat : Int) = (48 : Int))) (
 cond (!(Op.bytesLess x1 ([50, 49, 52, 55, 52, 56, 51, 54, 52, 55] : List UInt8) || decide (x1 = ([50, 49, 52, 55, 52, 56, 51, 54, 52, 55] : List UInt8)))) (
 some (mv (28:Int) μ7)) (
 opt (sb ρ x0 x1 μ7) (kS ρ H13 [] [(4,0)]))) (
 opt (sb ρ x0 x1 μ7) (kS ρ H13 [] [(4,0)]))) (
 opt (sb ρ x0 x1 μ7) (kS ρ H13 [] [(4,0)]))) (pX K6)) (
 opt (sb ρ x0 x1 μ) (kS ρ H13 [] [(4,0)]))) (
 opt (sb ρ x0 x1 μ) (kS ρ H13 [] [(4,0)])):=by kernel_rfl
theorem Gd (x4 μ):kB ρ 13 H13 [] (mv x4 μ)=
 some (.ret (LV.int .i64 x4) μ):=by kernel_rfl
theorem Sn (a b μ):aH E ρ 13 [LV.int .i64 a,LV.str b] μ=
 callK (ρ.call 23 [LV.int .i64 a, LV.int .i64 (0 : Int), LV.int .i64 (6 : Int)] μ) (fun v1 μ2 =>
 opt (aQ v1) fun b5=>
 cond (!b5) (
 some (.ret (LV.int .i64 (15:Int)) μ2)) (
 cond (decide (a = (3 : Int))) (
 some (.ret (LV.int .i64 (15:Int)) μ2)) (
 cond (decide (a = (4 : Int))) (
 some (.ret (LV.int .i64 (15:Int)) μ2)) (
 opt (M3 ρ a b μ2) (kB ρ 13 H13 []))))) pP:=by kernel_rfl
theorem So (a_0 a_1 a_2 μ):aH E ρ 15 [LV.cv (CV.agg [CV.int .i64 a_0,CV.int .i64 a_1,CV.str a_2])] μ=
 callK (ρ.call 23 [LV.int .i64 a_0, LV.int .i64 (0 : Int), LV.int .i64 (2 : Int)] μ) (fun v1 μ2 =>
 opt (aQ v1) fun b5=>
 cond (!b5) (
 some (.ret (LV.int .i64 (15:Int)) μ2)) (
 cond (decide (a_0 = (1 : Int))) (
 callK (ρ.call 13 [LV.int .i64 a_1, LV.str a_2] μ2) (fun v6 μ7 =>
 opt (aI .i64 v6) fun n10=>
 some (.ret (LV.int .i64 n10) μ7)) pP) (
 cond (!decide (a_1 = (0 : Int))) (
 some (.ret (LV.int .i64 (3:Int)) μ2)) (
 cond (decide (a_0 = (0 : Int))) (
 callK (ρ.call 53 [LV.str a_2] μ2) (fun v11 μ12 =>
 opt (aQ v11) fun b15=>
 cond (!b15) (
 some (.ret (LV.int .i64 (4:Int)) μ12)) (
 some (.ret (LV.int .i64 (0:Int)) μ12))) pP) (
 callK (ρ.call 55 [] μ2) (fun v16 μ17 =>
 opt (cF v16) fun l20=>
 callK (ρ.call 54 [LV.cv (CV.sl l20), LV.str a_2] μ17) (fun v21 μ22 =>
 opt (aQ v21) fun b25=>
 cond (!b25) (
 callK (ρ.call 56 [] μ22) (fun v26 μ27 =>
 opt (cF v26) fun l30=>
 callK (ρ.call 54 [LV.cv (CV.sl l30), LV.str a_2] μ27) (fun v31 μ32 =>
 opt (aQ v31) fun b35=>
 cond (!b35) (
 some (.ret (LV.int .i64 (7:Int)) μ32)) (
 some (.ret (LV.int .i64 (0:Int)) μ32))) pN) pN) (
 some (.ret (LV.int .i64 (0:Int)) μ22))) pN) pN))))) pP:=by kernel_rfl
def IB (x0:List UInt8):SegD:=⟨H18,[(2,2),(3,0),(4,0)],cA 18 [1,1],mS [(0,LV.str x0)] []⟩
def M5 (x0:List UInt8)(μ:Mu):=(IB x0).seg ρ μ
def IX (x0:List UInt8)(x6:List CV)(x7:Int):SegD:=⟨H18,[(6,1)],cA 18 [1,1,1,1,0,0,0],mS [(0,LV.str x0),(6,LV.osl x6),(7,LV.int .i64 x7)] []⟩
def sc (x0:List UInt8)(x6:List CV)(x7:Int)(μ:Mu):=(IX x0 x6 x7).loop ρ μ
def IC (x0:List UInt8)(x6:List CV)(x7:Int):SegD:=⟨H18,[(0,0),(6,1),(7,0)],cA 18 [1,1,1,1,0,0,0,1,0,1],mS [(0,LV.str x0),(6,LV.osl x6),(7,LV.int .i64 x7)] []⟩
def E5 (x0:List UInt8)(x6:List CV)(x7:Int)(μ:Mu):=(IC x0 x6 x7).seg ρ μ
def tP (x2:List CV)(x3 x4:Int)(μ:Mu):St:= .ret (mS [(2,LV.cv (CV.sl x2)),(3,LV.int .i64 x3),(4,LV.int .i64 x4)] []) μ
def DI (x0:List UInt8)(x6:List CV)(o0_0 o0_1:Int)(o0_2:List UInt8)(o0_3 o0_4:Int):SegD:=⟨H18,[(0,0),(6,1),(7,0)],cA 18 [1,1,1,1,0,0,0,1,0,1,1,1],mS [(0,LV.str x0),(6,LV.osl x6),(8,LV.loc 0 0)] [Ob.cells [LV.int .i64 o0_0,LV.int .i64 o0_1,LV.str o0_2,LV.int .i64 o0_3,LV.int .i64 o0_4]]⟩
def HP (x0:List UInt8)(x6:List CV)(o0_0 o0_1:Int)(o0_2:List UInt8)(o0_3 o0_4:Int)(μ:Mu):=(DI x0 x6 o0_0 o0_1 o0_2 o0_3 o0_4).seg ρ μ
def qJ (x0:List UInt8)(x6:List CV)(x7:Int)(μ:Mu):St:= .norm (mS [(0,LV.str x0),(6,LV.osl x6),(7,LV.int .i64 x7)] []) μ
def tQ (x0:List UInt8)(x6:List CV)(x7:Int)(μ:Mu):St:= .norm (mS [(0,LV.str x0),(6,LV.osl x6),(7,LV.int .i64 x7)] []) μ
def K9 (pv:CV)(μ:Mu):St:= .panic pv (mS [] []) μ
def ub (x2:List CV)(x3 x4:Int)(μ:Mu):St:= .ret (mS [(2,LV.cv (CV.sl x2)),(3,LV.int .i64 x3),(4,LV.int .i64 x4)] []) μ
def uc (x6:List CV)(μ:Mu):St:= .exit 0 (mS [(6,LV.osl x6)] []) μ
def my (x2:List CV)(x3 x4:Int)(μ:Mu):St:= .ret (mS [(2,LV.cv (CV.sl x2)),(3,LV.int .i64 x3),(4,LV.int .i64 x4)] []) μ
theorem Ma (x0 x6 o0_0 o0_1 o0_2 o0_3 o0_4 μ):(DI x0 x6 o0_0 o0_1 o0_2 o0_3 o0_4).sK ρ μ=
 ay (gE 3 x6 [CV.agg [CV.int .i64 o0_0, CV.int .i64 o0_1, CV.str o0_2]]) (
 some (qJ x0 (x6++[CV.agg [CV.int .i64 o0_0,CV.int .i64 o0_1,CV.str o0_2]]) o0_3 μ)):=by kernel_rfl
theorem CC (x0 x6 x7 μ):kS ρ H18 [] [(0,0),(6,1),(7,0)] (qJ x0 x6 x7 μ)=
 some (tQ x0 x6 x7 μ):=by kernel_rfl
theorem En (x0 x6 x7 μ):(IC x0 x6 x7).sK ρ μ=
 callK (ρ.call 58 [LV.str x0, LV.int .i64 x7] μ) (fun v7 μ8 =>
 Bd v7 fun n11 n12 s13 n14 n15=>
 cond (!decide (n15 = (0 : Int))) (
 some (tP [] x7 n15 μ8)) (
 opt (HP ρ x0 x6 n11 n12 s13 n14 n15 μ8) (kS ρ H18 [] [(0,0),(6,1),(7,0)]))) (pX K9):=by kernel_rfl
theorem Gi (x2 x3 x4 μ):kR ρ H18 [.block 1] [(6,1)] (cA 18 [1,1,1,1,0,0,0]) (tP x2 x3 x4 μ)=
 some (ub x2 x3 x4 μ):=by kernel_rfl
theorem Gj (x0 x6 x7 μ):kR ρ H18 [.block 1] [(6,1)] (cA 18 [1,1,1,1,0,0,0]) (tQ x0 x6 x7 μ)=
 sc ρ x0 x6 x7 μ:=by kernel_rfl
theorem xa (x0 x6 x7 μ):(IX x0 x6 x7).rK ρ μ=
 cond (decide (x7 < (List.length x0 : Int))) (
 opt (bo x0 x7) fun y6=>
 cond (decide ((y6.toNat : Int) = (32 : Int))) (
 sc ρ x0 x6 (IntKind.wrap .i64 (x7+(1:Int))) μ) (
 opt (E5 ρ x0 x6 x7 μ) (kR ρ H18 [.block 1] [(6,1)] (cA 18 [1,1,1,1,0,0,0])))) (
 some (uc x6 μ)):=by kernel_rfl
theorem GG (x2 x3 x4 μ):kS ρ H18 [.block 0,.seq (cA 18 [1,1,1,1,1])] [(2,2),(3,0),(4,0)] (ub x2 x3 x4 μ)=
 some (my x2 x3 x4 μ):=by kernel_rfl
theorem GH (x6 μ):kS ρ H18 [.block 0,.seq (cA 18 [1,1,1,1,1])] [(2,2),(3,0),(4,0)] (uc x6 μ)=
 cond (decide ((300 : Int) < (List.length x6 : Int))) (
 some (my [] (0:Int) (8:Int) μ)) (
 some (my x6 (List.length x6:Int) (0:Int) μ)):=by kernel_rfl
theorem OE (x0 μ):(IB x0).sK ρ μ=
 opt (sc ρ x0 [] (0:Int) μ) (kS ρ H18 [.block 0,.seq (cA 18 [1,1,1,1,1])] [(2,2),(3,0),(4,0)]):=by kernel_rfl
theorem Gg (x2 x3 x4 μ):kB ρ 18 H18 [] (my x2 x3 x4 μ)=
 some (.ret (LV.ltup [LV.cv (CV.sl x2),LV.int .i64 x3,LV.int .i64 x4]) μ):=by kernel_rfl
theorem Sp (a μ):aH E ρ 18 [LV.str a] μ=
 callK (ρ.call 48 [LV.str a] μ) (fun v1 μ2 =>
 opt (aI .i64 v1) fun n5=>
 cond (!decide (n5 = (0 : Int))) (
 some (.ret (LV.ltup [LV.cv (CV.v (.slice none 0 0)),LV.int .i64 (0:Int),LV.int .i64 n5]) μ2)) (
 opt (M5 ρ a μ2) (kB ρ 18 H18 []))) pP:=by kernel_rfl
def ID (x0 x1:List CV):SegD:=⟨H19,[(4,0)],cA 19 [1,1],mS [(0,LV.cv (CV.sl x0)),(1,LV.cv (CV.sl x1))] []⟩
def M6 (x0 x1:List CV)(μ:Mu):=(ID x0 x1).seg ρ μ
def IY (x0 x1:List CV)(x5:Int):SegD:=⟨H19,[],cA 19 [1,1,0,1,0,0],mS [(0,LV.cv (CV.sl x0)),(1,LV.cv (CV.sl x1)),(5,LV.int .i64 x5)] []⟩
def Fg (x0 x1:List CV)(x5:Int)(μ:Mu):=(IY x0 x1 x5).loop ρ μ
def ud (x4:Bool)(μ:Mu):St:= .ret (mS [(4,LV.bool x4)] []) μ
def ue (μ:Mu):St:= .exit 0 (mS [] []) μ
def pb (x4:Bool)(μ:Mu):St:= .ret (mS [(4,LV.bool x4)] []) μ
theorem Es (x0 x1 x5 μ):(IY x0 x1 x5).rK ρ μ=
 cond (decide (x5 < (List.length x0 : Int))) (
 opt (bZ x0 x5) fun c1=>
 cO (LV.cv c1) fun n2 n3 s4=>
 opt (bZ x1 x5) fun c5=>
 cO (LV.cv c5) fun n6 n7 s8=>
 cond (!(decide (n2 = n6) && (decide (n3 = n7) && (decide (s4 = s8) && true)))) (
 some (ud false μ)) (
 Fg ρ x0 x1 (IntKind.wrap .i64 (x5+(1:Int))) μ)) (
 some (ue μ)):=by kernel_rfl
theorem GI (x4 μ):kS ρ H19 [.block 0,.seq (cA 19 [1,1,1])] [(4,0)] (ud x4 μ)=
 some (pb x4 μ):=by kernel_rfl
theorem GJ (μ):kS ρ H19 [.block 0,.seq (cA 19 [1,1,1])] [(4,0)] (ue μ)=
 some (pb true μ):=by kernel_rfl
theorem OF (x0 x1 μ):(ID x0 x1).sK ρ μ=
 opt (Fg ρ x0 x1 (0:Int) μ) (kS ρ H19 [.block 0,.seq (cA 19 [1,1,1])] [(4,0)]):=by kernel_rfl
theorem Gk (x4 μ):kB ρ 19 H19 [] (pb x4 μ)=
 some (.ret (LV.bool x4) μ):=by kernel_rfl
theorem Sq (a b μ):aH E ρ 19 [LV.cv (CV.sl a),LV.cv (CV.sl b)] μ=
 cond (!decide ((List.length a : Int) = (List.length b : Int))) (
 some (.ret (LV.bool false) μ)) (
 opt (M6 ρ a b μ) (kB ρ 19 H19 [])):=by kernel_rfl
def IE (x0:List CV):SegD:=⟨H20,[(2,0)],cA 20 [1,1],mS [(0,LV.cv (CV.sl x0))] []⟩
def yH (x0:List CV)(μ:Mu):=(IE x0).seg ρ μ
def IZ (x0:List CV)(x3:Int):SegD:=⟨H20,[],cA 20 [1,1,0,1,0,0],mS [(0,LV.cv (CV.sl x0)),(3,LV.int .i64 x3)] []⟩
def Fh (x0:List CV)(x3:Int)(μ:Mu):=(IZ x0 x3).loop ρ μ
def uf (x2:Bool)(μ:Mu):St:= .ret (mS [(2,LV.bool x2)] []) μ
def ug (μ:Mu):St:= .exit 0 (mS [] []) μ
def pc (x2:Bool)(μ:Mu):St:= .ret (mS [(2,LV.bool x2)] []) μ
theorem Et (x0 x3 μ):(IZ x0 x3).rK ρ μ=
 cond (decide (x3 < (List.length x0 : Int))) (
 opt (bZ x0 x3) fun c1=>
 cO (LV.cv c1) fun n2 n3 s4=>
 cond (decide ((130 : Int) < (List.length s4 : Int))) (
 some (uf false μ)) (
 Fh ρ x0 (IntKind.wrap .i64 (x3+(1:Int))) μ)) (
 some (ug μ)):=by kernel_rfl
theorem GK (x2 μ):kS ρ H20 [.block 0,.seq (cA 20 [1,1,1])] [(2,0)] (uf x2 μ)=
 some (pc x2 μ):=by kernel_rfl
theorem GL (μ):kS ρ H20 [.block 0,.seq (cA 20 [1,1,1])] [(2,0)] (ug μ)=
 some (pc true μ):=by kernel_rfl
theorem OG (x0 μ):(IE x0).sK ρ μ=
 opt (Fh ρ x0 (0:Int) μ) (kS ρ H20 [.block 0,.seq (cA 20 [1,1,1])] [(2,0)]):=by kernel_rfl
theorem Gl (x2 μ):kB ρ 20 H20 [] (pc x2 μ)=
 some (.ret (LV.bool x2) μ):=by kernel_rfl
theorem Sr (a μ):aH E ρ 20 [LV.cv (CV.sl a)] μ=
 cond (decide ((60 : Int) < (List.length a : Int))) (
 cond (decide ((List.length a : Int) ≤ (300 : Int))) (
 some (.ret (LV.bool false) μ)) (
 cond (decide ((302 : Int) < (List.length a : Int))) (
 some (.ret (LV.bool false) μ)) (
 opt (yH ρ a μ) (kB ρ 20 H20 [])))) (
 cond (decide ((302 : Int) < (List.length a : Int))) (
 some (.ret (LV.bool false) μ)) (
 opt (yH ρ a μ) (kB ρ 20 H20 []))):=by kernel_rfl
def IF (x0:List CV):SegD:=⟨H21,[(2,0),(3,0)],cA 21 [1,1],mS [(0,LV.cv (CV.sl x0))] []⟩
def M7 (x0:List CV)(μ:Mu):=(IF x0).seg ρ μ
def I2 (x0:List CV)(x4:Int):SegD:=⟨H21,[],cA 21 [1,1,0,1,0,0],mS [(0,LV.cv (CV.sl x0)),(4,LV.int .i64 x4)] []⟩
def Fi (x0:List CV)(x4:Int)(μ:Mu):=(I2 x0 x4).loop ρ μ
def uh (x2 x3:Int)(μ:Mu):St:= .ret (mS [(2,LV.int .i64 x2),(3,LV.int .i64 x3)] []) μ
def Lc (pv:CV)(μ:Mu):St:= .panic pv (mS [] []) μ
def ui (μ:Mu):St:= .exit 0 (mS [] []) μ
def pe (x2 x3:Int)(μ:Mu):St:= .ret (mS [(2,LV.int .i64 x2),(3,LV.int .i64 x3)] []) μ
theorem Eu (x0 x4 μ):(I2 x0 x4).rK ρ μ=
 cond (decide (x4 < (List.length x0 : Int))) (
 opt (bZ x0 x4) fun c1=>
 cO (LV.cv c1) fun n2 n3 s4=>
 callK (ρ.call 15 [LV.cv (CV.agg [CV.int .i64 n2, CV.int .i64 n3, CV.str s4])] μ) (fun v5 μ6 =>
 opt (aI .i64 v5) fun n9=>
 cond (!decide (n9 = (0 : Int))) (
 some (uh x4 n9 μ6)) (
 Fi ρ x0 (IntKind.wrap .i64 (x4+(1:Int))) μ6)) (pX Lc)) (
 some (ui μ)):=by kernel_rfl
theorem GM (x2 x3 μ):kS ρ H21 [.block 0,.seq (cA 21 [1,1,1])] [(2,0),(3,0)] (uh x2 x3 μ)=
 some (pe x2 x3 μ):=by kernel_rfl
theorem GN (μ):kS ρ H21 [.block 0,.seq (cA 21 [1,1,1])] [(2,0),(3,0)] (ui μ)=
 some (pe (0:Int) (0:Int) μ):=by kernel_rfl
theorem OH (x0 μ):(IF x0).sK ρ μ=
 opt (Fi ρ x0 (0:Int) μ) (kS ρ H21 [.block 0,.seq (cA 21 [1,1,1])] [(2,0),(3,0)]):=by kernel_rfl
theorem Gm (x2 x3 μ):kB ρ 21 H21 [] (pe x2 x3 μ)=
 some (.ret (LV.ltup [LV.int .i64 x2,LV.int .i64 x3]) μ):=by kernel_rfl
theorem Ss (a μ):aH E ρ 21 [LV.cv (CV.sl a)] μ=
 cond (decide ((300 : Int) < (List.length a : Int))) (
 some (.ret (LV.ltup [LV.int .i64 (0:Int),LV.int .i64 (8:Int)]) μ)) (
 opt (M7 ρ a μ) (kB ρ 21 H21 [])):=by kernel_rfl
def Af (x1:Int)(x5:Bool)(x8:List CV)(x9 x10:Int):SegD:=⟨H22,[(5,0)],cA 22 [1,1,0,1,0,0],mS [(1,LV.int .i64 x1),(5,LV.bool x5),(8,LV.cv (CV.sl x8)),(9,LV.int .i64 x9),(10,LV.int .i64 x10)] []⟩
def yJ (x1:Int)(x5:Bool)(x8:List CV)(x9 x10:Int)(μ:Mu):=(Af x1 x5 x8 x9 x10).loop ρ μ
def mA (x5:Bool)(μ:Mu):St:= .exit 0 (mS [(5,LV.bool x5)] []) μ
theorem Ev (x1 x5 x8 x9 x10 μ):(Af x1 x5 x8 x9 x10).rK ρ μ=
 cond (decide (x10 < x9)) (
 opt (bZ x8 x10) fun c1=>
 opt (aI .i64 (LV.cv c1)) fun n2=>
 cond (x5) (
 yJ ρ x1 true x8 x9 (IntKind.wrap .i64 (x10+(1:Int))) μ) (
 yJ ρ x1 (decide (n2=x1)) x8 x9 (IntKind.wrap .i64 (x10+(1:Int))) μ)) (
 some (mA x5 μ)):=by kernel_rfl
theorem GO (x5 μ):kB ρ 22 H22 [.block 0,.seq (cA 22 [1,1,1])] (mA x5 μ)=
 some (.ret (LV.bool x5) μ):=by kernel_rfl
theorem Su (a b μ):aH E ρ 22 [LV.cv (CV.sl a),LV.int .i64 b] μ=
 opt (yJ ρ b false a (List.length a:Int) (0:Int) μ) (kB ρ 22 H22 [.block 0,.seq (cA 22 [1,1,1])]):=by kernel_rfl
theorem Sv (a b c μ):aH E ρ 23 [LV.int .i64 a,LV.int .i64 b,LV.int .i64 c] μ=
 cond (decide (a < b)) (
 some (.ret (LV.bool false) μ)) (
 some (.ret (LV.bool (!(decide (c<a)))) μ)):=by kernel_rfl
theorem Sw (a μ):aH E ρ 24 [LV.str a] μ=
 callK (ρ.call 57 [LV.str a, LV.bool true] μ) (fun v1 μ2 =>
 opt (aX v1) fun xs5=>
 opt (aB xs5) fun q6=>
 opt (cF q6.1) fun l7=>
 opt (aB q6.2) fun q8=>
 opt (aI .i64 q8.1) fun n9=>
 opt (aB q8.2) fun q10=>
 opt (aI .i64 q10.1) fun n11=>
 opt (aS q10.2) fun u12=>
 some (.ret (LV.ltup [LV.cv (CV.sl l7),LV.int .i64 n9,LV.int .i64 n11]) μ2)) pP:=by kernel_rfl
def IG (x0:List UInt8):SegD:=⟨H41,[(4,0)],cA 41 [1,1],mS [(0,LV.str x0)] []⟩
def M8 (x0:List UInt8)(μ:Mu):=(IG x0).seg ρ μ
def I3 (x0:List UInt8)(x5:Int):SegD:=⟨H41,[],cA 41 [1,1,0,1,0,0],mS [(0,LV.str x0),(5,LV.int .i64 x5)] []⟩
def Fj (x0:List UInt8)(x5:Int)(μ:Mu):=(I3 x0 x5).loop ρ μ
def uj (x4:Bool)(μ:Mu):St:= .ret (mS [(4,LV.bool x4)] []) μ
def Ld (pv:CV)(μ:Mu):St:= .panic pv (mS [] []) μ
def uk (μ:Mu):St:= .exit 0 (mS [] []) μ
def pf (x4:Bool)(μ:Mu):St:= .ret (mS [(4,LV.bool x4)] []) μ
theorem Ew (x0 x5 μ):(I3 x0 x5).rK ρ μ=
 cond (decide (x5 < (List.length x0 : Int))) (
 opt (bo x0 x5) fun y1=>
 callK (ρ.call 23 [LV.int .i64 (IntKind.wrap .i64 (y1.toNat : Int)), LV.int .i64 (32 : Int), LV.int .i64 (126 : Int)] μ) (fun v2 μ3 =>
 opt (aQ v2) fun b6=>
 cond (!b6) (
 some (uj false μ3)) (
 Fj ρ x0 (IntKind.wrap .i64 (x5+(1:Int))) μ3)) (pX Ld)) (
 some (uk μ)):=by kernel_rfl
theorem GP (x4 μ):kS ρ H41 [.block 0,.seq (cA 41 [1,1,1])] [(4,0)] (uj x4 μ)=
 some (pf x4 μ):=by kernel_rfl
theorem GQ (μ):kS ρ H41 [.block 0,.seq (cA 41 [1,1,1])] [(4,0)] (uk μ)=
 some (pf true μ):=by kernel_rfl
theorem OI (x0 μ):(IG x0).sK ρ μ=
 opt (Fj ρ x0 (0:Int) μ) (kS ρ H41 [.block 0,.seq (cA 41 [1,1,1])] [(4,0)]):=by kernel_rfl
theorem Gn (x4 μ):kB ρ 41 H41 [] (pf x4 μ)=
 some (.ret (LV.bool x4) μ):=by kernel_rfl
theorem Sx (a b μ):aH E ρ 41 [LV.str a,LV.int .i64 b] μ=
 cond (decide (b < (List.length a : Int))) (
 some (.ret (LV.bool false) μ)) (
 opt (M8 ρ a μ) (kB ρ 41 H41 [])):=by kernel_rfl
def I4 (x0 x3:List UInt8)(x4:Int):SegD:=⟨H42,[(3,0)],cA 42 [1,1,0,1,0,0],mS [(0,LV.str x0),(3,LV.str x3),(4,LV.int .i64 x4)] []⟩
def yK (x0 x3:List UInt8)(x4:Int)(μ:Mu):=(I4 x0 x3 x4).loop ρ μ
def ul (x3:List UInt8)(μ:Mu):St:= .exit 0 (mS [(3,LV.str x3)] []) μ
theorem Ex (x0 x3 x4 μ):(I4 x0 x3 x4).rK ρ μ=
 cond (decide (x4 < (List.length x0 : Int))) (
 opt (di x0 x4 (IntKind.wrap .i64 (x4+(1:Int)))) fun s1=>
 ay (bn (List.length x3 + List.length s1)) (
 opt (bo x0 x4) fun y2=>
 cond (decide ((y2.toNat : Int) = (39 : Int))) (
 ay (bn (List.length (x3 ++ s1) + List.length ([39] : List UInt8))) (
 yK ρ x0 ((x3++s1)++([39]:List UInt8)) (IntKind.wrap .i64 (x4+(1:Int))) μ)) (
 yK ρ x0 (x3++s1) (IntKind.wrap .i64 (x4+(1:Int))) μ))) (
 some (ul x3 μ)):=by kernel_rfl
theorem GR (x3 μ):kB ρ 42 H42 [.block 0,.seq (cA 42 [1,1,1])] (ul x3 μ)=
 ay (bn (List.length x3 + List.length ([39] : List UInt8))) (
 some (.ret (LV.str (x3++([39]:List UInt8))) μ)):=by kernel_rfl
theorem Sy (a μ):aH E ρ 42 [LV.str a] μ=
 opt (yK ρ a ([39]:List UInt8) (0:Int) μ) (kB ρ 42 H42 [.block 0,.seq (cA 42 [1,1,1])]):=by kernel_rfl
def I5 (x0:List UInt8)(x1 x5:Int):SegD:=⟨H47,[(5,0)],cA 47 [1,1,0,0,0],mS [(0,LV.str x0),(1,LV.int .i64 x1),(5,LV.int .i64 x5)] []⟩
def Fk (x0:List UInt8)(x1 x5:Int)(μ:Mu):=(I5 x0 x1 x5).loop ρ μ
def pn (x5:Int)(μ:Mu):St:= .exit 0 (mS [(5,LV.int .i64 x5)] []) μ
def Lf (pv:CV)(μ:Mu):St:= .panic pv (mS [] []) μ
theorem Ey (x0 x1 x5 μ):(I5 x0 x1 x5).rK ρ μ=
 cond (decide (IntKind.wrap .i64 (x1 + x5) < (List.length x0 : Int))) (
 opt (bo x0 (IntKind.wrap .i64 (x1+x5))) fun y1=>
 callK (ρ.call 67 [LV.int .u8 (y1.toNat : Int)] μ) (fun v2 μ3 =>
 opt (aQ v2) fun b6=>
 cond (b6) (
 Fk ρ x0 x1 (IntKind.wrap .i64 (x5+(1:Int))) μ3) (
 some (pn x5 μ3))) (pX Lf)) (
 some (pn x5 μ)):=by kernel_rfl
theorem GS (x5 μ):kB ρ 47 H47 [.block 0,.seq (cA 47 [1,1,1])] (pn x5 μ)=
 some (.ret (LV.int .i64 x5) μ):=by kernel_rfl
theorem Sz (a b μ):aH E ρ 47 [LV.str a,LV.int .i64 b] μ=
 opt (Fk ρ a b (0:Int) μ) (kB ρ 47 H47 [.block 0,.seq (cA 47 [1,1,1])]):=by kernel_rfl
theorem SA (a μ):aH E ρ 48 [LV.str a] μ=
 cond (decide ((1320 : Int) < (List.length a : Int))) (
 some (.ret (LV.int .i64 (8:Int)) μ)) (
 callK (ρ.call 41 [LV.str a, LV.int .i64 (1320 : Int)] μ) (fun v1 μ2 =>
 opt (aQ v1) fun b5=>
 cond (!b5) (
 some (.ret (LV.int .i64 (3:Int)) μ2)) (
 some (.ret (LV.int .i64 (0:Int)) μ2))) pP):=by kernel_rfl
theorem SB (a b μ):aH E ρ 50 [LV.cv (CV.sl a),LV.str b] μ=
 callK (ρ.call 94 [LV.cv (CV.sl a), LV.str b] μ) (fun v1 μ2 =>
 opt (aI .i64 v1) fun n5=>
 some (.ret (LV.bool (decide ((0:Int)≤n5))) μ2)) pP:=by kernel_rfl
theorem SC (μ):aH E ρ 51 [] μ=
 some (.ret (LV.osl [CV.str ([46,76,84,46]:List UInt8),CV.str ([46,76,69,46]:List UInt8),CV.str ([46,69,81,46]:List UInt8),CV.str ([46,78,69,46]:List UInt8),CV.str ([46,71,69,46]:List UInt8),CV.str ([46,71,84,46]:List UInt8),CV.str ([46,78,79,84,46]:List UInt8),CV.str ([46,65,78,68,46]:List UInt8),CV.str ([46,79,82,46]:List UInt8),CV.str ([46,69,81,86,46]:List UInt8),CV.str ([46,78,69,81,86,46]:List UInt8)]) μ):=by kernel_rfl
theorem SD (μ):aH E ρ 52 [] μ=
 some (.ret (LV.osl [CV.str ([42,42]:List UInt8),CV.str ([47,47]:List UInt8),CV.str ([61,62]:List UInt8),CV.str ([42]:List UInt8),CV.str ([47]:List UInt8),CV.str ([43]:List UInt8),CV.str ([45]:List UInt8),CV.str ([40]:List UInt8),CV.str ([41]:List UInt8),CV.str ([44]:List UInt8),CV.str ([58]:List UInt8),CV.str ([61]:List UInt8),CV.str ([37]:List UInt8)]) μ):=by kernel_rfl
def IH (x0:List UInt8):SegD:=⟨H53,[(2,0)],cA 53 [1,1],mS [(0,LV.str x0)] []⟩
def M9 (x0:List UInt8)(μ:Mu):=(IH x0).seg ρ μ
def I6 (x0:List UInt8)(x3:Int):SegD:=⟨H53,[],cA 53 [1,1,0,1,0,0],mS [(0,LV.str x0),(3,LV.int .i64 x3)] []⟩
def yL (x0:List UInt8)(x3:Int)(μ:Mu):=(I6 x0 x3).loop ρ μ
def um (x2:Bool)(μ:Mu):St:= .ret (mS [(2,LV.bool x2)] []) μ
def un (μ:Mu):St:= .exit 0 (mS [] []) μ
def pg (x2:Bool)(μ:Mu):St:= .ret (mS [(2,LV.bool x2)] []) μ
theorem Ez (x0 x3 μ):(I6 x0 x3).rK ρ μ=
 cond (decide (x3 < (List.length x0 : Int))) (
 opt (bo x0 x3) fun y6=>
 cond (decide ((97 : Int) ≤ (y6.toNat : Int))) (
 opt (bo x0 x3) fun y7=>
 cond (decide ((y7.toNat : Int) ≤ (122 : Int))) (
 some (um false μ)) (
 yL ρ x0 (IntKind.wrap .i64 (x3+(1:Int))) μ)) (
 yL ρ x0 (IntKind.wrap .i64 (x3+(1:Int))) μ)) (
 some (un μ)):=by kernel_rfl
theorem GT (x2 μ):kS ρ H53 [.block 0,.seq (cA 53 [1,1,1])] [(2,0)] (um x2 μ)=
 some (pg x2 μ):=by kernel_rfl
theorem GU (μ):kS ρ H53 [.block 0,.seq (cA 53 [1,1,1])] [(2,0)] (un μ)=
 some (pg true μ):=by kernel_rfl
theorem OJ (x0 μ):(IH x0).sK ρ μ=
 opt (yL ρ x0 (0:Int) μ) (kS ρ H53 [.block 0,.seq (cA 53 [1,1,1])] [(2,0)]):=by kernel_rfl
theorem Gp (x2 μ):kB ρ 53 H53 [] (pg x2 μ)=
 some (.ret (LV.bool x2) μ):=by kernel_rfl
theorem SE (a μ):aH E ρ 53 [LV.str a] μ=
 callK (ρ.call 95 [LV.str a] μ) (fun v1 μ2 =>
 opt (aQ v1) fun b5=>
 cond (!b5) (
 some (.ret (LV.bool false) μ2)) (
 opt (M9 ρ a μ2) (kB ρ 53 H53 []))) pP:=by kernel_rfl
def I7 (x1:List UInt8)(x5:Bool)(x8:List CV)(x9 x10:Int):SegD:=⟨H54,[(5,0)],cA 54 [1,1,0,1,0,0],mS [(1,LV.str x1),(5,LV.bool x5),(8,LV.cv (CV.sl x8)),(9,LV.int .i64 x9),(10,LV.int .i64 x10)] []⟩
def yM (x1:List UInt8)(x5:Bool)(x8:List CV)(x9 x10:Int)(μ:Mu):=(I7 x1 x5 x8 x9 x10).loop ρ μ
def uo (x5:Bool)(μ:Mu):St:= .exit 0 (mS [(5,LV.bool x5)] []) μ
theorem EA (x1 x5 x8 x9 x10 μ):(I7 x1 x5 x8 x9 x10).rK ρ μ=
 cond (decide (x10 < x9)) (
 opt (bZ x8 x10) fun c1=>
 opt (aN (LV.cv c1)) fun s2=>
 cond (x5) (
 yM ρ x1 true x8 x9 (IntKind.wrap .i64 (x10+(1:Int))) μ) (
 yM ρ x1 (decide (s2=x1)) x8 x9 (IntKind.wrap .i64 (x10+(1:Int))) μ)) (
 some (uo x5 μ)):=by kernel_rfl
theorem GV (x5 μ):kB ρ 54 H54 [.block 0,.seq (cA 54 [1,1,1])] (uo x5 μ)=
 some (.ret (LV.bool x5) μ):=by kernel_rfl
theorem SF (a b μ):aH E ρ 54 [LV.cv (CV.sl a),LV.str b] μ=
 opt (yM ρ b false a (List.length a:Int) (0:Int) μ) (kB ρ 54 H54 [.block 0,.seq (cA 54 [1,1,1])]):=by kernel_rfl
theorem SG (μ):aH E ρ 55 [] μ=
 some (.ret (LV.osl [CV.str ([46,76,84,46]:List UInt8),CV.str ([46,76,69,46]:List UInt8),CV.str ([46,69,81,46]:List UInt8),CV.str ([46,78,69,46]:List UInt8),CV.str ([46,71,69,46]:List UInt8),CV.str ([46,71,84,46]:List UInt8),CV.str ([46,78,79,84,46]:List UInt8),CV.str ([46,65,78,68,46]:List UInt8),CV.str ([46,79,82,46]:List UInt8),CV.str ([46,69,81,86,46]:List UInt8),CV.str ([46,78,69,81,86,46]:List UInt8)]) μ):=by kernel_rfl
theorem SH (μ):aH E ρ 56 [] μ=
 some (.ret (LV.osl [CV.str ([42,42]:List UInt8),CV.str ([47,47]:List UInt8),CV.str ([61,62]:List UInt8),CV.str ([42]:List UInt8),CV.str ([47]:List UInt8),CV.str ([43]:List UInt8),CV.str ([45]:List UInt8),CV.str ([40]:List UInt8),CV.str ([41]:List UInt8),CV.str ([44]:List UInt8),CV.str ([58]:List UInt8),CV.str ([61]:List UInt8),CV.str ([37]:List UInt8)]) μ):=by kernel_rfl
def II (x7:CV)(x8:Int):SegD:=⟨H57,[(4,2),(5,0),(6,0)],cA 57 [1,1,1],mS [(7,LV.cv x7),(8,LV.int .i64 x8)] []⟩
def Na (x7:CV)(x8:Int)(μ:Mu):=(II x7 x8).seg ρ μ
def tR (x4:List CV)(x5 x6:Int)(μ:Mu):St:= .ret (mS [(4,LV.cv (CV.sl x4)),(5,LV.int .i64 x5),(6,LV.int .i64 x6)] []) μ
theorem OK (x7 x8 μ):(II x7 x8).sK ρ μ=
 opt (oz (LV.cv x7)) fun b13=>
 ay (!b13) (
 opt (kf (LV.cv (sQ x7))) fun cs14=>
 opt (aB cs14) fun q15=>
 opt (aN (LV.cv q15.1)) fun s16=>
 opt (aB q15.2) fun q17=>
 opt (aQ (LV.cv q17.1)) fun b18=>
 opt (aB q17.2) fun q19=>
 opt (cF (LV.cv q19.1)) fun l20=>
 opt (aB q19.2) fun q21=>
 opt (cF (LV.cv q21.1)) fun l22=>
 opt (aS q21.2) fun u23=>
 some (tR l20 x8 (0:Int) μ)):=by kernel_rfl
theorem Gq (x4 x5 x6 μ):kB ρ 57 H57 [] (tR x4 x5 x6 μ)=
 some (.ret (LV.ltup [LV.cv (CV.sl x4),LV.int .i64 x5,LV.int .i64 x6]) μ):=by kernel_rfl
theorem SI (a b μ):aH E ρ 57 [LV.str a,LV.bool b] μ=
 callK (ρ.call 78 [LV.str a, LV.bool b] μ) (fun v1 μ2 =>
 opt (aX v1) fun xs5=>
 opt (aB xs5) fun q6=>
 opt (d8 q6.1) fun c7=>
 opt (aB q6.2) fun q8=>
 opt (aI .i64 q8.1) fun n9=>
 opt (aB q8.2) fun q10=>
 opt (aI .i64 q10.1) fun n11=>
 opt (aS q10.2) fun u12=>
 cond (!decide (n11 = (0 : Int))) (
 some (.ret (LV.ltup [LV.cv (CV.v (.slice none 0 0)),LV.int .i64 n9,LV.int .i64 n11]) μ2)) (
 opt (Na ρ c7 n9 μ2) (kB ρ 57 H57 []))) pP:=by kernel_rfl
def I8 (x0:List UInt8)(x1 x6 o0_0 o0_1:Int)(o0_2:List UInt8)(o0_3 o0_4:Int):SegD:=⟨H58,[(0,0),(1,0),(4,0),(6,0)],cA 58 [1,1,0,0,1,0,1,0,0,0],mS [(0,LV.str x0),(1,LV.int .i64 x1),(4,LV.loc 0 0),(6,LV.int .i64 x6)] [Ob.cells [LV.int .i64 o0_0,LV.int .i64 o0_1,LV.str o0_2,LV.int .i64 o0_3,LV.int .i64 o0_4]]⟩
def sd (x0:List UInt8)(x1 x6 o0_0 o0_1:Int)(o0_2:List UInt8)(o0_3 o0_4:Int)(μ:Mu):=(I8 x0 x1 x6 o0_0 o0_1 o0_2 o0_3 o0_4).loop ρ μ
def mB (x0:List UInt8)(x1 x6 o0_0 o0_1:Int)(o0_2:List UInt8)(o0_3 o0_4:Int)(μ:Mu):St:= .exit 1 (mS [(0,LV.str x0),(1,LV.int .i64 x1),(4,LV.loc 0 0),(6,LV.int .i64 x6)] [Ob.cells [LV.int .i64 o0_0,LV.int .i64 o0_1,LV.str o0_2,LV.int .i64 o0_3,LV.int .i64 o0_4]]) μ
def zE (pv:CV)(μ:Mu):St:= .panic pv (mS [] []) μ
def IJ (x0:List UInt8)(x1 x6 o0_0 o0_1:Int)(o0_2:List UInt8)(o0_3 o0_4:Int):SegD:=⟨H58,[(0,0),(1,0),(4,0)],cA 58 [1,1,0,0,1,0,1,1,1],mS [(0,LV.str x0),(1,LV.int .i64 x1),(4,LV.loc 0 0),(6,LV.int .i64 x6)] [Ob.cells [LV.int .i64 o0_0,LV.int .i64 o0_1,LV.str o0_2,LV.int .i64 o0_3,LV.int .i64 o0_4]]⟩
def Nb (x0:List UInt8)(x1 x6 o0_0 o0_1:Int)(o0_2:List UInt8)(o0_3 o0_4:Int)(μ:Mu):=(IJ x0 x1 x6 o0_0 o0_1 o0_2 o0_3 o0_4).seg ρ μ
def tS (o0_0 o0_1:Int)(o0_2:List UInt8)(o0_3 o0_4:Int)(μ:Mu):St:= .ret (mS [(4,LV.loc 0 0)] [Ob.cells [LV.int .i64 o0_0,LV.int .i64 o0_1,LV.str o0_2,LV.int .i64 o0_3,LV.int .i64 o0_4]]) μ
def La (pv:CV)(μ:Mu):St:= .panic pv (mS [] []) μ
def DK (x0:List UInt8)(x1 x5:Int)(x60:Bool)(o0_0 o0_1:Int)(o0_2:List UInt8)(o0_3 o0_4:Int):SegD:=⟨H58,[(0,0),(1,0),(4,0)],cA 58 [1,1,0,0,1,1,1],mS [(0,LV.str x0),(1,LV.int .i64 x1),(4,LV.loc 0 0),(5,LV.int .u8 x5),(60,LV.bool x60)] [Ob.cells [LV.int .i64 o0_0,LV.int .i64 o0_1,LV.str o0_2,LV.int .i64 o0_3,LV.int .i64 o0_4]]⟩
def n0 (x0:List UInt8)(x1 x5:Int)(x60:Bool)(o0_0 o0_1:Int)(o0_2:List UInt8)(o0_3 o0_4:Int)(μ:Mu):=(DK x0 x1 x5 x60 o0_0 o0_1 o0_2 o0_3 o0_4).seg ρ μ
def dz (o0_0 o0_1:Int)(o0_2:List UInt8)(o0_3 o0_4:Int)(μ:Mu):St:= .ret (mS [(4,LV.loc 0 0)] [Ob.cells [LV.int .i64 o0_0,LV.int .i64 o0_1,LV.str o0_2,LV.int .i64 o0_3,LV.int .i64 o0_4]]) μ
def nb (pv:CV)(μ:Mu):St:= .panic pv (mS [] []) μ
def D5 (x0:List UInt8)(x1:Int)(x85:List CV)(x86 x87 o0_0 o0_1:Int)(o0_2:List UInt8)(o0_3 o0_4:Int):SegD:=⟨H58,[(0,0),(1,0),(4,0)],cA 58 [1,1,0,0,1,1,1,1,1,0,0,1,0,0],mS [(0,LV.str x0),(1,LV.int .i64 x1),(4,LV.loc 0 0),(85,LV.cv (CV.sl x85)),(86,LV.int .i64 x86),(87,LV.int .i64 x87)] [Ob.cells [LV.int .i64 o0_0,LV.int .i64 o0_1,LV.str o0_2,LV.int .i64 o0_3,LV.int .i64 o0_4]]⟩
def zw (x0:List UInt8)(x1:Int)(x85:List CV)(x86 x87 o0_0 o0_1:Int)(o0_2:List UInt8)(o0_3 o0_4:Int)(μ:Mu):=(D5 x0 x1 x85 x86 x87 o0_0 o0_1 o0_2 o0_3 o0_4).loop ρ μ
def qV (o0_0 o0_1:Int)(o0_2:List UInt8)(o0_3 o0_4:Int)(μ:Mu):St:= .ret (mS [(4,LV.loc 0 0)] [Ob.cells [LV.int .i64 o0_0,LV.int .i64 o0_1,LV.str o0_2,LV.int .i64 o0_3,LV.int .i64 o0_4]]) μ
def Ig (pv:CV)(μ:Mu):St:= .panic pv (mS [] []) μ
def qW (x0:List UInt8)(x1 o0_0 o0_1:Int)(o0_2:List UInt8)(o0_3 o0_4:Int)(μ:Mu):St:= .exit 3 (mS [(0,LV.str x0),(1,LV.int .i64 x1),(4,LV.loc 0 0)] [Ob.cells [LV.int .i64 o0_0,LV.int .i64 o0_1,LV.str o0_2,LV.int .i64 o0_3,LV.int .i64 o0_4]]) μ
def D6 (x0:List UInt8)(x1:Int)(x103:List CV)(x104 x105 o0_0 o0_1:Int)(o0_2:List UInt8)(o0_3 o0_4:Int):SegD:=⟨H58,[(4,0)],cA 58 [1,1,0,0,1,1,1,1,1,0,1,0,1,0,0],mS [(0,LV.str x0),(1,LV.int .i64 x1),(4,LV.loc 0 0),(103,LV.cv (CV.sl x103)),(104,LV.int .i64 x104),(105,LV.int .i64 x105)] [Ob.cells [LV.int .i64 o0_0,LV.int .i64 o0_1,LV.str o0_2,LV.int .i64 o0_3,LV.int .i64 o0_4]]⟩
def zx (x0:List UInt8)(x1:Int)(x103:List CV)(x104 x105 o0_0 o0_1:Int)(o0_2:List UInt8)(o0_3 o0_4:Int)(μ:Mu):=(D6 x0 x1 x103 x104 x105 o0_0 o0_1 o0_2 o0_3 o0_4).loop ρ μ
def qX (o0_0 o0_1:Int)(o0_2:List UInt8)(o0_3 o0_4:Int)(μ:Mu):St:= .ret (mS [(4,LV.loc 0 0)] [Ob.cells [LV.int .i64 o0_0,LV.int .i64 o0_1,LV.str o0_2,LV.int .i64 o0_3,LV.int .i64 o0_4]]) μ
def Ih (pv:CV)(μ:Mu):St:= .panic pv (mS [] []) μ
def qY (o0_0 o0_1:Int)(o0_2:List UInt8)(o0_3 o0_4:Int)(μ:Mu):St:= .exit 5 (mS [(4,LV.loc 0 0)] [Ob.cells [LV.int .i64 o0_0,LV.int .i64 o0_1,LV.str o0_2,LV.int .i64 o0_3,LV.int .i64 o0_4]]) μ
def qL (x0:List UInt8)(x1 o0_0 o0_1:Int)(o0_2:List UInt8)(o0_3 o0_4:Int)(μ:Mu):St:= .norm (mS [(0,LV.str x0),(1,LV.int .i64 x1),(4,LV.loc 0 0)] [Ob.cells [LV.int .i64 o0_0,LV.int .i64 o0_1,LV.str o0_2,LV.int .i64 o0_3,LV.int .i64 o0_4]]) μ
def DL (x0:List UInt8)(x1 o0_0 o0_1:Int)(o0_2:List UInt8)(o0_3 o0_4:Int):SegD:=⟨H58,[(4,0)],cA 58 [1,1,1],mS [(0,LV.str x0),(1,LV.int .i64 x1),(4,LV.loc 0 0)] [Ob.cells [LV.int .i64 o0_0,LV.int .i64 o0_1,LV.str o0_2,LV.int .i64 o0_3,LV.int .i64 o0_4]]⟩
def HQ (x0:List UInt8)(x1 o0_0 o0_1:Int)(o0_2:List UInt8)(o0_3 o0_4:Int)(μ:Mu):=(DL x0 x1 o0_0 o0_1 o0_2 o0_3 o0_4).seg ρ μ
def D7 (x0:List UInt8)(x1:Int)(x133:List CV)(x134 x135 o0_0 o0_1:Int)(o0_2:List UInt8)(o0_3 o0_4 o1_0 o1_1:Int)(o1_2:List UInt8)(o1_3 o1_4:Int):SegD:=⟨H58,[(0,0),(1,0),(4,0),(11,0)],cA 58 [1,1,1,1,0,1,0,0],mS [(0,LV.str x0),(1,LV.int .i64 x1),(4,LV.loc 0 0),(11,LV.loc 1 0),(133,LV.cv (CV.sl x133)),(134,LV.int .i64 x134),(135,LV.int .i64 x135)] [Ob.cells [LV.int .i64 o0_0,LV.int .i64 o0_1,LV.str o0_2,LV.int .i64 o0_3,LV.int .i64 o0_4],Ob.cells [LV.int .i64 o1_0,LV.int .i64 o1_1,LV.str o1_2,LV.int .i64 o1_3,LV.int .i64 o1_4]]⟩
def qw (x0:List UInt8)(x1:Int)(x133:List CV)(x134 x135 o0_0 o0_1:Int)(o0_2:List UInt8)(o0_3 o0_4 o1_0 o1_1:Int)(o1_2:List UInt8)(o1_3 o1_4:Int)(μ:Mu):=(D7 x0 x1 x133 x134 x135 o0_0 o0_1 o0_2 o0_3 o0_4 o1_0 o1_1 o1_2 o1_3 o1_4).loop ρ μ
def Ii (pv:CV)(μ:Mu):St:= .panic pv (mS [] []) μ
def qZ (x0:List UInt8)(x1 o0_0 o0_1:Int)(o0_2:List UInt8)(o0_3 o0_4 o1_0 o1_1:Int)(o1_2:List UInt8)(o1_3 o1_4:Int)(μ:Mu):St:= .exit 7 (mS [(0,LV.str x0),(1,LV.int .i64 x1),(4,LV.loc 0 0),(11,LV.loc 1 0)] [Ob.cells [LV.int .i64 o0_0,LV.int .i64 o0_1,LV.str o0_2,LV.int .i64 o0_3,LV.int .i64 o0_4],Ob.cells [LV.int .i64 o1_0,LV.int .i64 o1_1,LV.str o1_2,LV.int .i64 o1_3,LV.int .i64 o1_4]]) μ
def xB (pv:CV)(μ:Mu):St:= .panic pv (mS [] []) μ
def D8 (x0:List UInt8)(x1:Int)(x164:List CV)(x165 x166 o0_0 o0_1:Int)(o0_2:List UInt8)(o0_3 o0_4 o1_0 o1_1:Int)(o1_2:List UInt8)(o1_3 o1_4:Int):SegD:=⟨H58,[(4,0),(11,0)],cA 58 [1,1,1,1,1,0,1,0,0],mS [(0,LV.str x0),(1,LV.int .i64 x1),(4,LV.loc 0 0),(11,LV.loc 1 0),(164,LV.cv (CV.sl x164)),(165,LV.int .i64 x165),(166,LV.int .i64 x166)] [Ob.cells [LV.int .i64 o0_0,LV.int .i64 o0_1,LV.str o0_2,LV.int .i64 o0_3,LV.int .i64 o0_4],Ob.cells [LV.int .i64 o1_0,LV.int .i64 o1_1,LV.str o1_2,LV.int .i64 o1_3,LV.int .i64 o1_4]]⟩
def od (x0:List UInt8)(x1:Int)(x164:List CV)(x165 x166 o0_0 o0_1:Int)(o0_2:List UInt8)(o0_3 o0_4 o1_0 o1_1:Int)(o1_2:List UInt8)(o1_3 o1_4:Int)(μ:Mu):=(D8 x0 x1 x164 x165 x166 o0_0 o0_1 o0_2 o0_3 o0_4 o1_0 o1_1 o1_2 o1_3 o1_4).loop ρ μ
def Ij (pv:CV)(μ:Mu):St:= .panic pv (mS [] []) μ
def la (o0_0 o0_1:Int)(o0_2:List UInt8)(o0_3 o0_4 o1_0 o1_1:Int)(o1_2:List UInt8)(o1_3 o1_4:Int)(μ:Mu):St:= .exit 9 (mS [(4,LV.loc 0 0),(11,LV.loc 1 0)] [Ob.cells [LV.int .i64 o0_0,LV.int .i64 o0_1,LV.str o0_2,LV.int .i64 o0_3,LV.int .i64 o0_4],Ob.cells [LV.int .i64 o1_0,LV.int .i64 o1_1,LV.str o1_2,LV.int .i64 o1_3,LV.int .i64 o1_4]]) μ
def nc (o0_0 o0_1:Int)(o0_2:List UInt8)(o0_3 o0_4:Int)(μ:Mu):St:= .ret (mS [(4,LV.loc 0 0)] [Ob.cells [LV.int .i64 o0_0,LV.int .i64 o0_1,LV.str o0_2,LV.int .i64 o0_3,LV.int .i64 o0_4]]) μ
theorem EB (x0 x1 x6 o0_0 o0_1 o0_2 o0_3 o0_4 μ):(I8 x0 x1 x6 o0_0 o0_1 o0_2 o0_3 o0_4).rK ρ μ=
 cond (decide (x6 < (List.length x0 : Int))) (
 opt (bo x0 x6) fun y7=>
 callK (ρ.call 96 [LV.int .u8 (y7.toNat : Int)] μ) (fun v8 μ9 =>
 opt (aQ v8) fun b12=>
 cond (b12) (
 sd ρ x0 x1 (IntKind.wrap .i64 (x6+(1:Int))) o0_0 o0_1 o0_2 o0_3 o0_4 μ9) (
 opt (bo x0 x6) fun y13=>
 callK (ρ.call 67 [LV.int .u8 (y13.toNat : Int)] μ9) (fun v14 μ15 =>
 opt (aQ v14) fun b18=>
 cond (b18) (
 sd ρ x0 x1 (IntKind.wrap .i64 (x6+(1:Int))) o0_0 o0_1 o0_2 o0_3 o0_4 μ15) (
 opt (bo x0 x6) fun y19=>
 cond (decide ((y19.toNat : Int) = (95 : Int))) (
 sd ρ x0 x1 (IntKind.wrap .i64 (x6+(1:Int))) o0_0 o0_1 o0_2 o0_3 o0_4 μ15) (
 some (mB x0 x1 x6 o0_0 o0_1 o0_2 o0_3 o0_4 μ15)))) (pX zE))) (pX zE)) (
 some (mB x0 x1 x6 o0_0 o0_1 o0_2 o0_3 o0_4 μ)):=by kernel_rfl
theorem OL (x0 x1 x6 o0_0 o0_1 o0_2 o0_3 o0_4 μ):(IJ x0 x1 x6 o0_0 o0_1 o0_2 o0_3 o0_4).sK ρ μ=
 opt (di x0 x1 x6) fun s20=>
 callK (ρ.call 97 [LV.str s20] μ) (fun v21 μ22 =>
 opt (aN v21) fun s25=>
 some (tS (0:Int) (0:Int) s25 x6 (0:Int) μ22)) (pX La):=by kernel_rfl
theorem Gr (o0_0 o0_1 o0_2 o0_3 o0_4 μ):kB ρ 58 H58 [.block 0,.seq (cA 58 [1,1,1])] (tS o0_0 o0_1 o0_2 o0_3 o0_4 μ)=
 some (.ret (LV.cv (CV.agg [CV.int .i64 o0_0,CV.int .i64 o0_1,CV.str o0_2,CV.int .i64 o0_3,CV.int .i64 o0_4])) μ):=by kernel_rfl
theorem GW (x0 x1 x6 o0_0 o0_1 o0_2 o0_3 o0_4 μ):kB ρ 58 H58 [.block 1,.seq (cA 58 [1,1,0,0,1,0,1,1]),.block 0,.seq (cA 58 [1,1,1])] (mB x0 x1 x6 o0_0 o0_1 o0_2 o0_3 o0_4 μ)=
 cond (decide ((31 : Int) < IntKind.wrap .i64 (x6 - x1))) (
 some (.ret (LV.cv (CV.agg [CV.int .i64 (0:Int),CV.int .i64 (0:Int),CV.str ([]:List UInt8),CV.int .i64 (0:Int),CV.int .i64 (4:Int)])) μ)) (
 opt (Nb ρ x0 x1 x6 o0_0 o0_1 o0_2 o0_3 o0_4 μ) (kB ρ 58 H58 [.block 0,.seq (cA 58 [1,1,1])])):=by kernel_rfl
theorem AQ (x0 x1 x85 x86 x87 o0_0 o0_1 o0_2 o0_3 o0_4 μ):(D5 x0 x1 x85 x86 x87 o0_0 o0_1 o0_2 o0_3 o0_4).rK ρ μ=
 cond (decide (x87 < x86)) (
 opt (bZ x85 x87) fun c47=>
 opt (aN (LV.cv c47)) fun s48=>
 callK (ρ.call 99 [LV.str x0, LV.int .i64 x1, LV.str s48] μ) (fun v49 μ50 =>
 opt (aQ v49) fun b53=>
 cond (b53) (
 some (qV (2:Int) (0:Int) s48 (IntKind.wrap .i64 (x1+(List.length s48:Int))) (0:Int) μ50)) (
 zw ρ x0 x1 x85 x86 (IntKind.wrap .i64 (x87+(1:Int))) o0_0 o0_1 o0_2 o0_3 o0_4 μ50)) (pX Ig)) (
 some (qW x0 x1 o0_0 o0_1 o0_2 o0_3 o0_4 μ)):=by kernel_rfl
theorem CT (o0_0 o0_1 o0_2 o0_3 o0_4 μ):kS ρ H58 [.block 3,.seq (cA 58 [1,1,0,0,1,1,1,1,1,0,1])] [(0,0),(1,0),(4,0)] (qV o0_0 o0_1 o0_2 o0_3 o0_4 μ)=
 some (dz o0_0 o0_1 o0_2 o0_3 o0_4 μ):=by kernel_rfl
theorem AR (x0 x1 x103 x104 x105 o0_0 o0_1 o0_2 o0_3 o0_4 μ):(D6 x0 x1 x103 x104 x105 o0_0 o0_1 o0_2 o0_3 o0_4).rK ρ μ=
 cond (decide (x105 < x104)) (
 opt (bZ x103 x105) fun c54=>
 opt (aN (LV.cv c54)) fun s55=>
 callK (ρ.call 99 [LV.str x0, LV.int .i64 x1, LV.str s55] μ) (fun v56 μ57 =>
 opt (aQ v56) fun b60=>
 cond (b60) (
 some (qX (1:Int) (5:Int) s55 (IntKind.wrap .i64 (x1+(List.length s55:Int))) (0:Int) μ57)) (
 zx ρ x0 x1 x103 x104 (IntKind.wrap .i64 (x105+(1:Int))) o0_0 o0_1 o0_2 o0_3 o0_4 μ57)) (pX Ih)) (
 some (qY o0_0 o0_1 o0_2 o0_3 o0_4 μ)):=by kernel_rfl
theorem CW (o0_0 o0_1 o0_2 o0_3 o0_4 μ):kS ρ H58 [.block 5,.seq (cA 58 [1,1,0,0,1,1,1,1,1,0,1,1])] [(0,0),(1,0),(4,0)] (qX o0_0 o0_1 o0_2 o0_3 o0_4 μ)=
 some (dz o0_0 o0_1 o0_2 o0_3 o0_4 μ):=by kernel_rfl
theorem CX (o0_0 o0_1 o0_2 o0_3 o0_4 μ):kS ρ H58 [.block 5,.seq (cA 58 [1,1,0,0,1,1,1,1,1,0,1,1])] [(0,0),(1,0),(4,0)] (qY o0_0 o0_1 o0_2 o0_3 o0_4 μ)=
 some (dz (0:Int) (0:Int) ([]:List UInt8) (0:Int) (7:Int) μ):=by kernel_rfl
theorem CU (x0 x1 o0_0 o0_1 o0_2 o0_3 o0_4 μ):kS ρ H58 [.block 3,.seq (cA 58 [1,1,0,0,1,1,1,1,1,0,1])] [(0,0),(1,0),(4,0)] (qW x0 x1 o0_0 o0_1 o0_2 o0_3 o0_4 μ)=
 opt (zx ρ x0 x1 [CV.str ([46,84,82,85,69,46]:List UInt8),CV.str ([46,70,65,76,83,69,46]:List UInt8)] (2:Int) (0:Int) o0_0 o0_1 o0_2 o0_3 o0_4 μ) (kS ρ H58 [.block 5,.seq (cA 58 [1,1,0,0,1,1,1,1,1,0,1,1])] [(0,0),(1,0),(4,0)]):=by kernel_rfl
theorem Mc (x0 x1 x5 x60 o0_0 o0_1 o0_2 o0_3 o0_4 μ):(DK x0 x1 x5 x60 o0_0 o0_1 o0_2 o0_3 o0_4).sK ρ μ=
 cond (x60) (
 callK (ρ.call 98 [LV.str x0, LV.int .i64 x1] μ) (fun v33 μ34 =>
 Bd v33 fun n37 n38 s39 n40 n41=>
 some (dz n37 n38 s39 n40 n41 μ34)) (pX nb)) (
 cond (decide (x5 = (46 : Int))) (
 callK (ρ.call 55 [] μ) (fun v42 μ43 =>
 opt (cF v42) fun l46=>
 opt (zw ρ x0 x1 l46 (List.length l46:Int) (0:Int) o0_0 o0_1 o0_2 o0_3 o0_4 μ43) (kS ρ H58 [.block 3,.seq (cA 58 [1,1,0,0,1,1,1,1,1,0,1])] [(0,0),(1,0),(4,0)])) (pX nb)) (
 cond (decide (x5 = (39 : Int))) (
 callK (ρ.call 81 [LV.str x0, LV.int .i64 x1] μ) (fun v63 μ64 =>
 Bd v63 fun n67 n68 s69 n70 n71=>
 some (dz n67 n68 s69 n70 n71 μ64)) (pX nb)) (
 cond (decide (x5 = (34 : Int))) (
 callK (ρ.call 81 [LV.str x0, LV.int .i64 x1] μ) (fun v72 μ73 =>
 Bd v72 fun n76 n77 s78 n79 n80=>
 some (dz n76 n77 s78 n79 n80 μ73)) (pX nb)) (
 some (qL x0 x1 o0_0 o0_1 o0_2 o0_3 o0_4 μ))))):=by kernel_rfl
theorem te (o0_0 o0_1 o0_2 o0_3 o0_4 μ):kB ρ 58 H58 [.block 0,.seq (cA 58 [1,1,1])] (dz o0_0 o0_1 o0_2 o0_3 o0_4 μ)=
 some (.ret (LV.cv (CV.agg [CV.int .i64 o0_0,CV.int .i64 o0_1,CV.str o0_2,CV.int .i64 o0_3,CV.int .i64 o0_4])) μ):=by kernel_rfl
theorem pW (x0 x1 x133 x134 x135 o0_0 o0_1 o0_2 o0_3 o0_4 o1_0 o1_1 o1_2 o1_3 o1_4 μ):(D7 x0 x1 x133 x134 x135 o0_0 o0_1 o0_2 o0_3 o0_4 o1_0 o1_1 o1_2 o1_3 o1_4).rK ρ μ=
 cond (decide (x135 < x134)) (
 opt (bZ x133 x135) fun c86=>
 NH (LV.cv c86) fun s87 s88=>
 callK (ρ.call 99 [LV.str x0, LV.int .i64 x1, LV.str s87] μ) (fun v89 μ90 =>
 opt (aQ v89) fun b93=>
 cond (b93) (
 cond (decide (o1_3 < IntKind.wrap .i64 (x1 + (List.length s87 : Int)))) (
 qw ρ x0 x1 x133 x134 (IntKind.wrap .i64 (x135+(1:Int))) o0_0 o0_1 o0_2 o0_3 o0_4 (2:Int) (0:Int) s88 (IntKind.wrap .i64 (x1+(List.length s87:Int))) (0:Int) μ90) (
 qw ρ x0 x1 x133 x134 (IntKind.wrap .i64 (x135+(1:Int))) o0_0 o0_1 o0_2 o0_3 o0_4 o1_0 o1_1 o1_2 o1_3 o1_4 μ90)) (
 qw ρ x0 x1 x133 x134 (IntKind.wrap .i64 (x135+(1:Int))) o0_0 o0_1 o0_2 o0_3 o0_4 o1_0 o1_1 o1_2 o1_3 o1_4 μ90)) (pX Ii)) (
 some (qZ x0 x1 o0_0 o0_1 o0_2 o0_3 o0_4 o1_0 o1_1 o1_2 o1_3 o1_4 μ)):=by kernel_rfl
theorem pY (x0 x1 x164 x165 x166 o0_0 o0_1 o0_2 o0_3 o0_4 o1_0 o1_1 o1_2 o1_3 o1_4 μ):(D8 x0 x1 x164 x165 x166 o0_0 o0_1 o0_2 o0_3 o0_4 o1_0 o1_1 o1_2 o1_3 o1_4).rK ρ μ=
 cond (decide (x166 < x165)) (
 opt (bZ x164 x166) fun c99=>
 opt (aN (LV.cv c99)) fun s100=>
 callK (ρ.call 99 [LV.str x0, LV.int .i64 x1, LV.str s100] μ) (fun v101 μ102 =>
 opt (aQ v101) fun b105=>
 cond (b105) (
 cond (decide (o1_3 < IntKind.wrap .i64 (x1 + (List.length s100 : Int)))) (
 od ρ x0 x1 x164 x165 (IntKind.wrap .i64 (x166+(1:Int))) o0_0 o0_1 o0_2 o0_3 o0_4 (2:Int) (0:Int) s100 (IntKind.wrap .i64 (x1+(List.length s100:Int))) (0:Int) μ102) (
 od ρ x0 x1 x164 x165 (IntKind.wrap .i64 (x166+(1:Int))) o0_0 o0_1 o0_2 o0_3 o0_4 o1_0 o1_1 o1_2 o1_3 o1_4 μ102)) (
 od ρ x0 x1 x164 x165 (IntKind.wrap .i64 (x166+(1:Int))) o0_0 o0_1 o0_2 o0_3 o0_4 o1_0 o1_1 o1_2 o1_3 o1_4 μ102)) (pX Ij)) (
 some (la o0_0 o0_1 o0_2 o0_3 o0_4 o1_0 o1_1 o1_2 o1_3 o1_4 μ)):=by kernel_rfl
theorem tv (o0_0 o0_1 o0_2 o0_3 o0_4 o1_0 o1_1 o1_2 o1_3 o1_4 μ):kS ρ H58 [.block 9,.seq (cA 58 [1,1,1,1,1,1])] [(4,0)] (la o0_0 o0_1 o0_2 o0_3 o0_4 o1_0 o1_1 o1_2 o1_3 o1_4 μ)=
 some (nc o1_0 o1_1 o1_2 o1_3 o1_4 μ):=by kernel_rfl
theorem tu (x0 x1 o0_0 o0_1 o0_2 o0_3 o0_4 o1_0 o1_1 o1_2 o1_3 o1_4 μ):kS ρ H58 [.block 7,.seq (cA 58 [1,1,1,1,1])] [(4,0)] (qZ x0 x1 o0_0 o0_1 o0_2 o0_3 o0_4 o1_0 o1_1 o1_2 o1_3 o1_4 μ)=
 callK (ρ.call 56 [] μ) (fun v94 μ95 =>
 opt (cF v94) fun l98=>
 opt (od ρ x0 x1 l98 (List.length l98:Int) (0:Int) o0_0 o0_1 o0_2 o0_3 o0_4 o1_0 o1_1 o1_2 o1_3 o1_4 μ95) (kS ρ H58 [.block 9,.seq (cA 58 [1,1,1,1,1,1])] [(4,0)])) (pX xB):=by kernel_rfl
theorem Md (x0 x1 o0_0 o0_1 o0_2 o0_3 o0_4 μ):(DL x0 x1 o0_0 o0_1 o0_2 o0_3 o0_4).sK ρ μ=
 callK (ρ.call 100 [] μ) (fun v81 μ82 =>
 opt (cF v81) fun l85=>
 opt (qw ρ x0 x1 l85 (List.length l85:Int) (0:Int) o0_0 o0_1 o0_2 o0_3 o0_4 (0:Int) (0:Int) ([]:List UInt8) (0:Int) (7:Int) μ82) (kS ρ H58 [.block 7,.seq (cA 58 [1,1,1,1,1])] [(4,0)])) (pX xB):=by kernel_rfl
theorem tf (o0_0 o0_1 o0_2 o0_3 o0_4 μ):kB ρ 58 H58 [] (nc o0_0 o0_1 o0_2 o0_3 o0_4 μ)=
 some (.ret (LV.cv (CV.agg [CV.int .i64 o0_0,CV.int .i64 o0_1,CV.str o0_2,CV.int .i64 o0_3,CV.int .i64 o0_4])) μ):=by kernel_rfl
theorem CD (x0 x1 o0_0 o0_1 o0_2 o0_3 o0_4 μ):kB ρ 58 H58 [.block 0,.seq (cA 58 [1,1,1])] (qL x0 x1 o0_0 o0_1 o0_2 o0_3 o0_4 μ)=
 opt (HQ ρ x0 x1 o0_0 o0_1 o0_2 o0_3 o0_4 μ) (kB ρ 58 H58 []):=by kernel_rfl
theorem SJ (a b μ):aH E ρ 58 [LV.str a,LV.int .i64 b] μ=
 opt (bo a b) fun y1=>
 callK (ρ.call 96 [LV.int .u8 (y1.toNat : Int)] μ) (fun v2 μ3 =>
 opt (aQ v2) fun b6=>
 cond (b6) (
 opt (sd ρ a b b (0:Int) (0:Int) ([]:List UInt8) (0:Int) (0:Int) μ3) (kB ρ 58 H58 [.block 1,.seq (cA 58 [1,1,0,0,1,0,1,1]),.block 0,.seq (cA 58 [1,1,1])])) (
 callK (ρ.call 67 [LV.int .u8 (y1.toNat : Int)] μ3) (fun v28 μ29 =>
 opt (aQ v28) fun b32=>
 cond (b32) (
 opt (n0 ρ a b (y1.toNat:Int) b32 (0:Int) (0:Int) ([]:List UInt8) (0:Int) (0:Int) μ29) (kB ρ 58 H58 [.block 0,.seq (cA 58 [1,1,1])])) (
 cond (decide ((y1.toNat : Int) = (46 : Int))) (
 cond (decide (IntKind.wrap .i64 (b + (1 : Int)) < (List.length a : Int))) (
 opt (bo a (IntKind.wrap .i64 (b+(1:Int)))) fun y110=>
 callK (ρ.call 67 [LV.int .u8 (y110.toNat : Int)] μ29) (fun v111 μ112 =>
 opt (aQ v111) fun b115=>
 opt (n0 ρ a b (y1.toNat:Int) b115 (0:Int) (0:Int) ([]:List UInt8) (0:Int) (0:Int) μ112) (kB ρ 58 H58 [.block 0,.seq (cA 58 [1,1,1])])) pP) (
 opt (n0 ρ a b (y1.toNat:Int) false (0:Int) (0:Int) ([]:List UInt8) (0:Int) (0:Int) μ29) (kB ρ 58 H58 [.block 0,.seq (cA 58 [1,1,1])]))) (
 opt (n0 ρ a b (y1.toNat:Int) false (0:Int) (0:Int) ([]:List UInt8) (0:Int) (0:Int) μ29) (kB ρ 58 H58 [.block 0,.seq (cA 58 [1,1,1])])))) pP)) pP:=by kernel_rfl
theorem Qp (a b μ):aH E ρ 65 [LV.str a,LV.bool b] μ=
 cond (b) (
 callK (ρ.call 62 [LV.str a, LV.str ([48] : List UInt8)] μ) (fun v1 μ2 =>
 opt (aN v1) fun s5=>
 cond (decide (s5 = ([] : List UInt8))) (
 some (.ret (LV.str ([48]:List UInt8)) μ2)) (
 some (.ret (LV.str s5) μ2))) pP) (
 callK (ρ.call 63 [LV.str a, LV.str ([48] : List UInt8)] μ) (fun v6 μ7 =>
 opt (aN v6) fun s10=>
 cond (decide (s10 = ([] : List UInt8))) (
 some (.ret (LV.str ([48]:List UInt8)) μ7)) (
 some (.ret (LV.str s10) μ7))) pP):=by kernel_rfl
theorem SK (a μ):aH E ρ 67 [LV.int .u8 a] μ=
 cond (decide ((48 : Int) ≤ a)) (
 some (.ret (LV.bool (decide (a≤(57:Int)))) μ)) (
 some (.ret (LV.bool false) μ)):=by kernel_rfl
def Ja (x0:List UInt8):SegD:=⟨H69,[(0,0)],cA 69 [1,0,0,0],mS [(0,LV.str x0)] []⟩
def Fm (x0:List UInt8)(μ:Mu):=(Ja x0).loop ρ μ
def pp (x0:List UInt8)(μ:Mu):St:= .exit 0 (mS [(0,LV.str x0)] []) μ
theorem xe (x0 μ):(Ja x0).rK ρ μ=
 cond (decide ((1 : Int) < (List.length x0 : Int))) (
 opt (bo x0 (0:Int)) fun y1=>
 cond (decide ((y1.toNat : Int) = (48 : Int))) (
 opt (di x0 (1:Int) (List.length x0:Int)) fun s2=>
 Fm ρ s2 μ) (
 some (pp x0 μ))) (
 some (pp x0 μ)):=by kernel_rfl
theorem G7 (x0 μ):kB ρ 69 H69 [.block 0,.seq (cA 69 [1,1])] (pp x0 μ)=
 some (.ret (LV.str x0) μ):=by kernel_rfl
theorem SL (a μ):aH E ρ 69 [LV.str a] μ=
 opt (Fm ρ a μ) (kB ρ 69 H69 [.block 0,.seq (cA 69 [1,1])]):=by kernel_rfl
theorem SM (a μ):aH E ρ 70 [LV.str a] μ=
 cond (decide (a = ([] : List UInt8))) (
 some (.ret (LV.str ([48]:List UInt8)) μ)) (
 some (.ret (LV.str a) μ)):=by kernel_rfl
def IQ (x0:Int):SegD:=⟨H71,[(0,0)],cA 71 [1,0,1,0,1],mS [(0,LV.int .i64 x0)] []⟩
def Nf (x0:Int)(μ:Mu):=(IQ x0).seg ρ μ
def tX (x2:List UInt8)(μ:Mu):St:= .ret (mS [(2,LV.str x2)] []) μ
def zC (pv:CV)(μ:Mu):St:= .panic pv (mS [] []) μ
def IR (x0:Int):SegD:=⟨H71,[(2,0)],cA 71 [1,1],mS [(0,LV.int .i64 x0)] []⟩
def Ng (x0:Int)(μ:Mu):=(IR x0).seg ρ μ
def pi (x2:List UInt8)(μ:Mu):St:= .ret (mS [(2,LV.str x2)] []) μ
def zD (pv:CV)(μ:Mu):St:= .panic pv (mS [] []) μ
theorem OR (x0 μ):(IQ x0).sK ρ μ=
 callK (ρ.call 71 [LV.int .i64 (IntKind.wrap .i64 (Int.tdiv x0 (10 : Int)))] μ) (fun v6 μ7 =>
 opt (aN v6) fun s10=>
 callK (ρ.call 71 [LV.int .i64 (IntKind.wrap .i64 (0 - Int.tmod x0 (10 : Int)))] μ7) (fun v11 μ12 =>
 opt (aN v11) fun s15=>
 ay (bn (List.length s10 + List.length s15)) (
 some (tX (s10++s15) μ12))) (pX zC)) (pX zC):=by kernel_rfl
theorem Gw (x2 μ):kB ρ 71 H71 [.seq (cA 71 [1,1])] (tX x2 μ)=
 some (.ret (LV.str x2) μ):=by kernel_rfl
theorem OS (x0 μ):(IR x0).sK ρ μ=
 cond (decide ((9 : Int) < x0)) (
 callK (ρ.call 71 [LV.int .i64 (IntKind.wrap .i64 (Int.tdiv x0 (10 : Int)))] μ) (fun v17 μ18 =>
 opt (aN v17) fun s21=>
 callK (ρ.call 71 [LV.int .i64 (Int.tmod x0 (10 : Int))] μ18) (fun v22 μ23 =>
 opt (aN v22) fun s26=>
 ay (bn (List.length s21 + List.length s26)) (
 some (pi (s21++s26) μ23))) (pX zD)) (pX zD)) (
 opt (di ([48,49,50,51,52,53,54,55,56,57]:List UInt8) x0 (IntKind.wrap .i64 (x0+(1:Int)))) fun s27=>
 some (pi s27 μ)):=by kernel_rfl
theorem Gx (x2 μ):kB ρ 71 H71 [] (pi x2 μ)=
 some (.ret (LV.str x2) μ):=by kernel_rfl
theorem Qq (a μ):aH E ρ 71 [LV.int .i64 a] μ=
 cond (decide (a < (0 : Int))) (
 cond (decide ((-10 : Int) < a)) (
 callK (ρ.call 71 [LV.int .i64 (IntKind.wrap .i64 (0 - a))] μ) (fun v1 μ2 =>
 opt (aN v1) fun s5=>
 ay (bn (List.length ([45] : List UInt8) + List.length s5)) (
 some (.ret (LV.str (([45]:List UInt8)++s5)) μ2))) pP) (
 opt (Nf ρ a μ) (kB ρ 71 H71 [.seq (cA 71 [1,1])]))) (
 opt (Ng ρ a μ) (kB ρ 71 H71 [])):=by kernel_rfl
def IS (o0_0:List UInt8)(o0_1:Bool):SegD:=⟨H78,[(4,0),(5,0),(6,0)],cA 78 [1,1,1],mS [(7,LV.loc 0 0)] [Ob.cells [LV.str o0_0,LV.bool o0_1,LV.cv (CV.v (.slice none 0 0)),LV.cv (CV.v (.slice none 0 0))]]⟩
def Nh (o0_0:List UInt8)(o0_1:Bool)(μ:Mu):=(IS o0_0 o0_1).seg ρ μ
def IT (x9 x10:Int)(lam:Lam):SegD:=⟨H78,[(7,0)],cA 78 [1,1,1,0,1],mS [(7,LV.loc 0 0),(9,LV.int .i64 x9),(10,LV.int .i64 x10)] lam true⟩
def E7 (x9 x10:Int)(lam:Lam)(μ:Mu):=(IT x9 x10 lam).seg ρ μ
def tZ (x4_0:List UInt8)(x4_1:Bool)(x4_2 x4_3:List CV)(x5 x6:Int)(μ:Mu):St:= .ret (mS [(4,LV.cv (CV.view [CV.str x4_0,CV.bool x4_1,CV.sl x4_2,CV.sl x4_3])),(5,LV.int .i64 x5),(6,LV.int .i64 x6)] [Ob.dead] true) μ
def t6 (o0_0:List UInt8)(o0_1:Bool)(o0_2 o0_3:List CV)(μ:Mu):St:= .norm (mS [(7,LV.loc 0 0)] [Ob.cells [LV.str o0_0,LV.bool o0_1,LV.osl o0_2,LV.osl o0_3]] true) μ
def pj (x4_0:List UInt8)(x4_1:Bool)(x4_2 x4_3:List CV)(x5 x6:Int)(μ:Mu):St:= .ret (mS [(4,LV.cv (CV.view [CV.str x4_0,CV.bool x4_1,CV.sl x4_2,CV.sl x4_3])),(5,LV.int .i64 x5),(6,LV.int .i64 x6)] [Ob.dead] true) μ
def IU (lam:Lam):SegD:=⟨H78,[(4,0),(5,0),(6,0)],cA 78 [1,1,1,1],mS [(7,LV.loc 0 0)] lam true⟩
def E8 (lam:Lam)(μ:Mu):=(IU lam).seg ρ μ
def t7 (x4_0:List UInt8)(x4_1:Bool)(x4_2 x4_3:List CV)(x5 x6:Int)(μ:Mu):St:= .ret (mS [(4,LV.cv (CV.view [CV.str x4_0,CV.bool x4_1,CV.sl x4_2,CV.sl x4_3])),(5,LV.int .i64 x5),(6,LV.int .i64 x6)] [Ob.dead] true) μ
def DM (x7_0:List UInt8)(x7_1:Bool)(x7_2 x7_3:List CV)(lam:Lam):SegD:=⟨H78,[(4,0),(5,0),(6,0)],cA 78 [1,1,1,1,1],mS [(7,LV.cv (CV.view [CV.str x7_0,CV.bool x7_1,CV.sl x7_2,CV.sl x7_3]))] lam true⟩
def HR (x7_0:List UInt8)(x7_1:Bool)(x7_2 x7_3:List CV)(lam:Lam)(μ:Mu):=(DM x7_0 x7_1 x7_2 x7_3 lam).seg ρ μ
def qM (x4_0:List UInt8)(x4_1:Bool)(x4_2 x4_3:List CV)(x5 x6:Int)(o0:Ob)(μ:Mu):St:= .ret (mS [(4,LV.cv (CV.view [CV.str x4_0,CV.bool x4_1,CV.sl x4_2,CV.sl x4_3])),(5,LV.int .i64 x5),(6,LV.int .i64 x6)] [o0] true) μ
def t8 (x4_0:List UInt8)(x4_1:Bool)(x4_2 x4_3:List CV)(x5 x6:Int)(o0:Ob)(μ:Mu):St:= .ret (mS [(4,LV.cv (CV.view [CV.str x4_0,CV.bool x4_1,CV.sl x4_2,CV.sl x4_3])),(5,LV.int .i64 x5),(6,LV.int .i64 x6)] [o0] true) μ
def tY (x4_0:List UInt8)(x4_1:Bool)(x4_2 x4_3:List CV)(x5 x6:Int)(o0:Ob)(μ:Mu):St:= .ret (mS [(4,LV.cv (CV.view [CV.str x4_0,CV.bool x4_1,CV.sl x4_2,CV.sl x4_3])),(5,LV.int .i64 x5),(6,LV.int .i64 x6)] [o0] true) μ
def Lb (pv:CV)(lam:Lam)(μ:Mu):St:= .panic pv (mS [] lam true) μ
theorem Eo (x9 x10:Int)(o0_0:List UInt8)(o0_1:Bool)(o0_2 o0_3:List CV)(μ:Mu):(IT x9 x10 [Ob.cells [LV.str o0_0,LV.bool o0_1,LV.osl o0_2,LV.osl o0_3]]).sK ρ μ=
 cond (!decide (x10 = (0 : Int))) (
 some (tZ o0_0 o0_1 o0_2 o0_3 x9 x10 μ)) (
 some (t6 o0_0 o0_1 o0_2 o0_3 μ)):=by kernel_rfl
theorem GA (x4_0 x4_1 x4_2 x4_3 x5 x6 μ):kS ρ H78 [.seq (cA 78 [1,1,1,1])] [(4,0),(5,0),(6,0)] (tZ x4_0 x4_1 x4_2 x4_3 x5 x6 μ)=
 some (pj x4_0 x4_1 x4_2 x4_3 x5 x6 μ):=by kernel_rfl
theorem Me (x7_0:List UInt8)(x7_1:Bool)(x7_2 x7_3:List CV)(o0:Ob)(μ:Mu):(DM x7_0 x7_1 x7_2 x7_3 [o0]).sK ρ μ=
 some (qM x7_0 x7_1 x7_2 x7_3 (List.length x7_2:Int) (0:Int) o0 μ):=by kernel_rfl
theorem CE (x4_0 x4_1 x4_2 x4_3 x5 x6 o0 μ):kS ρ H78 [] [(4,0),(5,0),(6,0)] (qM x4_0 x4_1 x4_2 x4_3 x5 x6 o0 μ)=
 some (t8 x4_0 x4_1 x4_2 x4_3 x5 x6 o0 μ):=by kernel_rfl
theorem Ep (o0_0:List UInt8)(o0_1:Bool)(o0_2 o0_3:List CV)(μ:Mu):(IU [Ob.cells [LV.str o0_0,LV.bool o0_1,LV.osl o0_2,LV.osl o0_3]]).sK ρ μ=
 cond (decide ((300 : Int) < (List.length o0_2 : Int))) (
 some (t7 o0_0 o0_1 o0_2 o0_3 (0:Int) (8:Int) μ)) (
 opt (HR ρ o0_0 o0_1 o0_2 o0_3 [Ob.dead] μ) (kS ρ H78 [] [(4,0),(5,0),(6,0)])):=by kernel_rfl
theorem GC (x4_0 x4_1 x4_2 x4_3 x5 x6 μ):kS ρ H78 [] [(4,0),(5,0),(6,0)] (t7 x4_0 x4_1 x4_2 x4_3 x5 x6 μ)=
 some (pj x4_0 x4_1 x4_2 x4_3 x5 x6 μ):=by kernel_rfl
theorem GD (x4_0 x4_1 x4_2 x4_3 x5 x6 o0 μ):kS ρ H78 [] [(4,0),(5,0),(6,0)] (t8 x4_0 x4_1 x4_2 x4_3 x5 x6 o0 μ)=
 some (tY x4_0 x4_1 x4_2 x4_3 x5 x6 o0 μ):=by kernel_rfl
theorem GB (o0_0 o0_1 o0_2 o0_3 μ):kS ρ H78 [.seq (cA 78 [1,1,1,1])] [(4,0),(5,0),(6,0)] (t6 o0_0 o0_1 o0_2 o0_3 μ)=
 opt (E8 ρ [Ob.cells [LV.str o0_0,LV.bool o0_1,LV.osl o0_2,LV.osl o0_3]] μ) (kS ρ H78 [] [(4,0),(5,0),(6,0)]):=by kernel_rfl
theorem OT (o0_0 o0_1 μ):(IS o0_0 o0_1).sK ρ μ=
 callK (ρ.call 118 [LV.cv (CV.ref (List.length μ) 0 0)] (μ ++ [[Ob.cells [LV.str o0_0, LV.bool o0_1, LV.cv (CV.v (.slice none 0 0)), LV.cv (CV.v (.slice none 0 0))]]])) (fun v6 μ7 =>
 opt (iu μ7) fun q8=>
 opt (aX v6) fun xs12=>
 opt (aB xs12) fun q13=>
 opt (aI .i64 q13.1) fun n14=>
 opt (aB q13.2) fun q15=>
 opt (aI .i64 q15.1) fun n16=>
 opt (aS q15.2) fun u17=>
 Hh [(0,[0,0,1,1])] q8.2 fun lam18=>
 opt (E7 ρ n14 n16 lam18 q8.1) (kS ρ H78 [.seq (cA 78 [1,1,1,1])] [(4,0),(5,0),(6,0)])) (fun v10 μ9=>
 opt (iu μ9) fun q11=>
 some (Lb v10 q11.2 q11.1)):=by kernel_rfl
theorem Gy (x4_0 x4_1 x4_2 x4_3 x5 x6 μ):kB ρ 78 H78 [] (pj x4_0 x4_1 x4_2 x4_3 x5 x6 μ)=
 ay (fq (List.length μ) (LV.ltup [LV.cv (CV.view [CV.str x4_0,CV.bool x4_1,CV.sl x4_2,CV.sl x4_3]),LV.int .i64 x5,LV.int .i64 x6])) (some (.ret (LV.ltup [LV.cv (CV.view [CV.str x4_0,CV.bool x4_1,CV.sl x4_2,CV.sl x4_3]),LV.int .i64 x5,LV.int .i64 x6]) μ)):=by kernel_rfl
theorem Gz (x4_0 x4_1 x4_2 x4_3 x5 x6 o0 μ):kB ρ 78 H78 [] (tY x4_0 x4_1 x4_2 x4_3 x5 x6 o0 μ)=
 ay (fq (List.length μ) (LV.ltup [LV.cv (CV.view [CV.str x4_0,CV.bool x4_1,CV.sl x4_2,CV.sl x4_3]),LV.int .i64 x5,LV.int .i64 x6])) (some (.ret (LV.ltup [LV.cv (CV.view [CV.str x4_0,CV.bool x4_1,CV.sl x4_2,CV.sl x4_3]),LV.int .i64 x5,LV.int .i64 x6]) μ)):=by kernel_rfl
theorem SN (a b μ):aH E ρ 78 [LV.str a,LV.bool b] μ=
 callK (ρ.call 117 [LV.str a] μ) (fun v1 μ2 =>
 opt (aI .i64 v1) fun n5=>
 cond (!decide (n5 = (0 : Int))) (
 some (.ret (LV.ltup [LV.cv (CV.view [CV.str a,CV.bool b,CV.v (.slice none 0 0),CV.v (.slice none 0 0)]),LV.int .i64 (0:Int),LV.int .i64 n5]) μ2)) (
 opt (Nh ρ a b μ2) (kB ρ 78 H78 []))) pP:=by kernel_rfl
def Jb (x0:List UInt8)(x5:Int)(x6:List UInt8)(x7 o0_0 o0_1:Int)(o0_2:List UInt8)(o0_3 o0_4:Int):SegD:=⟨H81,[(4,0)],cA 81 [1,1,1,0,1,0,0],mS [(0,LV.str x0),(4,LV.loc 0 0),(5,LV.int .u8 x5),(6,LV.str x6),(7,LV.int .i64 x7)] [Ob.cells [LV.int .i64 o0_0,LV.int .i64 o0_1,LV.str o0_2,LV.int .i64 o0_3,LV.int .i64 o0_4]]⟩
def yN (x0:List UInt8)(x5:Int)(x6:List UInt8)(x7 o0_0 o0_1:Int)(o0_2:List UInt8)(o0_3 o0_4:Int)(μ:Mu):=(Jb x0 x5 x6 x7 o0_0 o0_1 o0_2 o0_3 o0_4).loop ρ μ
def IV (x0:List UInt8)(x5:Int)(x6:List UInt8)(x7 o0_0 o0_1:Int)(o0_2:List UInt8)(o0_3 o0_4:Int):SegD:=⟨H81,[(0,0),(4,0),(5,0),(6,0),(7,0)],cA 81 [1,1,1,0,1,0,0,1,0,0,1],mS [(0,LV.str x0),(4,LV.loc 0 0),(5,LV.int .u8 x5),(6,LV.str x6),(7,LV.int .i64 x7)] [Ob.cells [LV.int .i64 o0_0,LV.int .i64 o0_1,LV.str o0_2,LV.int .i64 o0_3,LV.int .i64 o0_4]]⟩
def E9 (x0:List UInt8)(x5:Int)(x6:List UInt8)(x7 o0_0 o0_1:Int)(o0_2:List UInt8)(o0_3 o0_4:Int)(μ:Mu):=(IV x0 x5 x6 x7 o0_0 o0_1 o0_2 o0_3 o0_4).seg ρ μ
def ua (x0:List UInt8)(x5:Int)(x6:List UInt8)(x7 o0_0 o0_1:Int)(o0_2:List UInt8)(o0_3 o0_4:Int)(μ:Mu):St:= .exit 1 (mS [(0,LV.str x0),(4,LV.loc 0 0),(5,LV.int .u8 x5),(6,LV.str x6),(7,LV.int .i64 x7)] [Ob.cells [LV.int .i64 o0_0,LV.int .i64 o0_1,LV.str o0_2,LV.int .i64 o0_3,LV.int .i64 o0_4]]) μ
def DN (x6:List UInt8)(x7 o0_0 o0_1:Int)(o0_2:List UInt8)(o0_3 o0_4:Int):SegD:=⟨H81,[(0,0),(4,0),(5,0),(6,0),(7,0)],cA 81 [1,1,1,0,1,0,0,1,0,0,1,1],mS [(4,LV.loc 0 0),(6,LV.str x6),(7,LV.int .i64 x7)] [Ob.cells [LV.int .i64 o0_0,LV.int .i64 o0_1,LV.str o0_2,LV.int .i64 o0_3,LV.int .i64 o0_4]]⟩
def u1 (x6:List UInt8)(x7 o0_0 o0_1:Int)(o0_2:List UInt8)(o0_3 o0_4:Int)(μ:Mu):=(DN x6 x7 o0_0 o0_1 o0_2 o0_3 o0_4).seg ρ μ
def nf (o0_0 o0_1:Int)(o0_2:List UInt8)(o0_3 o0_4:Int)(μ:Mu):St:= .ret (mS [(4,LV.loc 0 0)] [Ob.cells [LV.int .i64 o0_0,LV.int .i64 o0_1,LV.str o0_2,LV.int .i64 o0_3,LV.int .i64 o0_4]]) μ
def DO (x6:List UInt8)(x7 o0_0 o0_1:Int)(o0_2:List UInt8)(o0_3 o0_4:Int):SegD:=⟨H81,[(0,0),(4,0),(5,0),(6,0),(7,0)],cA 81 [1,1,1,0,1,0,0,1,0,0,1,1,1],mS [(4,LV.loc 0 0),(6,LV.str x6),(7,LV.int .i64 x7)] [Ob.cells [LV.int .i64 o0_0,LV.int .i64 o0_1,LV.str o0_2,LV.int .i64 o0_3,LV.int .i64 o0_4]]⟩
def HS (x6:List UInt8)(x7 o0_0 o0_1:Int)(o0_2:List UInt8)(o0_3 o0_4:Int)(μ:Mu):=(DO x6 x7 o0_0 o0_1 o0_2 o0_3 o0_4).seg ρ μ
def qN (o0_0 o0_1:Int)(o0_2:List UInt8)(o0_3 o0_4:Int)(μ:Mu):St:= .ret (mS [(4,LV.loc 0 0)] [Ob.cells [LV.int .i64 o0_0,LV.int .i64 o0_1,LV.str o0_2,LV.int .i64 o0_3,LV.int .i64 o0_4]]) μ
def Ic (pv:CV)(μ:Mu):St:= .panic pv (mS [] []) μ
def pk (o0_0 o0_1:Int)(o0_2:List UInt8)(o0_3 o0_4:Int)(μ:Mu):St:= .ret (mS [(4,LV.loc 0 0)] [Ob.cells [LV.int .i64 o0_0,LV.int .i64 o0_1,LV.str o0_2,LV.int .i64 o0_3,LV.int .i64 o0_4]]) μ
def ut (o0_0 o0_1:Int)(o0_2:List UInt8)(o0_3 o0_4:Int)(μ:Mu):St:= .ret (mS [(4,LV.loc 0 0)] [Ob.cells [LV.int .i64 o0_0,LV.int .i64 o0_1,LV.str o0_2,LV.int .i64 o0_3,LV.int .i64 o0_4]]) μ
def uu (o0_0 o0_1:Int)(o0_2:List UInt8)(o0_3 o0_4:Int)(μ:Mu):St:= .exit 0 (mS [(4,LV.loc 0 0)] [Ob.cells [LV.int .i64 o0_0,LV.int .i64 o0_1,LV.str o0_2,LV.int .i64 o0_3,LV.int .i64 o0_4]]) μ
theorem Mg (x6 x7 o0_0 o0_1 o0_2 o0_3 o0_4 μ):(DO x6 x7 o0_0 o0_1 o0_2 o0_3 o0_4).sK ρ μ=
 callK (ρ.call 42 [LV.str x6] μ) (fun v6 μ7 =>
 opt (aN v6) fun s10=>
 some (qN (1:Int) (6:Int) s10 (IntKind.wrap .i64 (x7+(1:Int))) (0:Int) μ7)) (pX Ic):=by kernel_rfl
theorem CF (o0_0 o0_1 o0_2 o0_3 o0_4 μ):kS ρ H81 [] [(0,0),(4,0),(5,0),(6,0),(7,0)] (qN o0_0 o0_1 o0_2 o0_3 o0_4 μ)=
 some (nf o0_0 o0_1 o0_2 o0_3 o0_4 μ):=by kernel_rfl
theorem Mf (x6 x7 o0_0 o0_1 o0_2 o0_3 o0_4 μ):(DN x6 x7 o0_0 o0_1 o0_2 o0_3 o0_4).sK ρ μ=
 cond (decide ((60 : Int) < (List.length x6 : Int))) (
 some (nf (0:Int) (0:Int) ([]:List UInt8) (0:Int) (8:Int) μ)) (
 opt (HS ρ x6 x7 o0_0 o0_1 o0_2 o0_3 o0_4 μ) (kS ρ H81 [] [(0,0),(4,0),(5,0),(6,0),(7,0)])):=by kernel_rfl
theorem th (o0_0 o0_1 o0_2 o0_3 o0_4 μ):kS ρ H81 [] [(0,0),(4,0),(5,0),(6,0),(7,0)] (nf o0_0 o0_1 o0_2 o0_3 o0_4 μ)=
 some (pk o0_0 o0_1 o0_2 o0_3 o0_4 μ):=by kernel_rfl
theorem Er (x0 x5 x6 x7 o0_0 o0_1 o0_2 o0_3 o0_4 μ):(IV x0 x5 x6 x7 o0_0 o0_1 o0_2 o0_3 o0_4).sK ρ μ=
 cond (decide (IntKind.wrap .i64 (x7 + (1 : Int)) < (List.length x0 : Int))) (
 opt (bo x0 (IntKind.wrap .i64 (x7+(1:Int)))) fun y4=>
 cond (decide ((y4.toNat : Int) = x5)) (
 opt (di x0 x7 (IntKind.wrap .i64 (x7+(1:Int)))) fun s5=>
 ay (bn (List.length x6 + List.length s5)) (
 some (ua x0 x5 (x6++s5) (IntKind.wrap .i64 (x7+(1:Int))) o0_0 o0_1 o0_2 o0_3 o0_4 μ))) (
 opt (u1 ρ x6 x7 o0_0 o0_1 o0_2 o0_3 o0_4 μ) (kS ρ H81 [] [(0,0),(4,0),(5,0),(6,0),(7,0)]))) (
 opt (u1 ρ x6 x7 o0_0 o0_1 o0_2 o0_3 o0_4 μ) (kS ρ H81 [] [(0,0),(4,0),(5,0),(6,0),(7,0)])):=by kernel_rfl
theorem GE (x0 x5 x6 x7 o0_0 o0_1 o0_2 o0_3 o0_4 μ):kR ρ H81 [.block 1,.seq (cA 81 [1,1,1,0,1,0,0,1,1])] [(4,0)] (cA 81 [1,1,1,0,1,0,0]) (ua x0 x5 x6 x7 o0_0 o0_1 o0_2 o0_3 o0_4 μ)=
 yN ρ x0 x5 x6 (IntKind.wrap .i64 (x7+(1:Int))) o0_0 o0_1 o0_2 o0_3 o0_4 μ:=by kernel_rfl
theorem vP (o0_0 o0_1 o0_2 o0_3 o0_4 μ):kR ρ H81 [.block 1,.seq (cA 81 [1,1,1,0,1,0,0,1,1])] [(4,0)] (cA 81 [1,1,1,0,1,0,0]) (pk o0_0 o0_1 o0_2 o0_3 o0_4 μ)=
 some (ut o0_0 o0_1 o0_2 o0_3 o0_4 μ):=by kernel_rfl
theorem EC (x0 x5 x6 x7 o0_0 o0_1 o0_2 o0_3 o0_4 μ):(Jb x0 x5 x6 x7 o0_0 o0_1 o0_2 o0_3 o0_4).rK ρ μ=
 cond (decide (x7 < (List.length x0 : Int))) (
 opt (bo x0 x7) fun y2=>
 cond (!decide ((y2.toNat : Int) = x5)) (
 opt (di x0 x7 (IntKind.wrap .i64 (x7+(1:Int)))) fun s3=>
 ay (bn (List.length x6 + List.length s3)) (
 yN ρ x0 x5 (x6++s3) (IntKind.wrap .i64 (x7+(1:Int))) o0_0 o0_1 o0_2 o0_3 o0_4 μ)) (
 opt (E9 ρ x0 x5 x6 x7 o0_0 o0_1 o0_2 o0_3 o0_4 μ) (kR ρ H81 [.block 1,.seq (cA 81 [1,1,1,0,1,0,0,1,1])] [(4,0)] (cA 81 [1,1,1,0,1,0,0])))) (
 some (uu o0_0 o0_1 o0_2 o0_3 o0_4 μ)):=by kernel_rfl
theorem vQ (o0_0 o0_1 o0_2 o0_3 o0_4 μ):kB ρ 81 H81 [.block 0,.seq (cA 81 [1,1,1,1])] (ut o0_0 o0_1 o0_2 o0_3 o0_4 μ)=
 some (.ret (LV.cv (CV.agg [CV.int .i64 o0_0,CV.int .i64 o0_1,CV.str o0_2,CV.int .i64 o0_3,CV.int .i64 o0_4])) μ):=by kernel_rfl
theorem G8 (o0_0 o0_1 o0_2 o0_3 o0_4 μ):kB ρ 81 H81 [.block 0,.seq (cA 81 [1,1,1,1])] (uu o0_0 o0_1 o0_2 o0_3 o0_4 μ)=
 some (.ret (LV.cv (CV.agg [CV.int .i64 (0:Int),CV.int .i64 (0:Int),CV.str ([]:List UInt8),CV.int .i64 (0:Int),CV.int .i64 (7:Int)])) μ):=by kernel_rfl
theorem SO (a b μ):aH E ρ 81 [LV.str a,LV.int .i64 b] μ=
 opt (bo a b) fun y1=>
 opt (yN ρ a (y1.toNat:Int) ([]:List UInt8) (IntKind.wrap .i64 (b+(1:Int))) (0:Int) (0:Int) ([]:List UInt8) (0:Int) (0:Int) μ) (kB ρ 81 H81 [.block 0,.seq (cA 81 [1,1,1,1])]):=by kernel_rfl
theorem SP (a μ):aH E ρ 85 [LV.str a] μ=
 callK (ρ.call 43 [LV.str a, LV.cv (CV.clo 122 [])] μ) (fun v1 μ2 =>
 opt (aQ v1) fun b5=>
 some (.ret (LV.bool (!b5)) μ2)) pP:=by kernel_rfl
theorem SQ (a μ):aH E ρ 86 [LV.str a] μ=
 callK (ρ.call 84 [LV.str a, LV.str ([39] : List UInt8), LV.str ([39, 39] : List UInt8)] μ) (fun v1 μ2 =>
 opt (aN v1) fun s5=>
 ay (bn (List.length ([39] : List UInt8) + List.length s5)) (
 ay (bn (List.length (([39] : List UInt8) ++ s5) + List.length ([39] : List UInt8))) (
 some (.ret (LV.cv (CV.agg [CV.int .i64 (1:Int),CV.int .i64 (6:Int),CV.str ((([39]:List UInt8)++s5)++([39]:List UInt8))])) μ2)))) pP:=by kernel_rfl
theorem SR (a μ):aH E ρ 90 [LV.int .u8 a] μ=
 cond (decide ((97 : Int) ≤ a)) (
 cond (decide (a ≤ (122 : Int))) (
 some (.ret (LV.bool true) μ)) (
 cond (decide ((65 : Int) ≤ a)) (
 some (.ret (LV.bool (decide (a≤(90:Int)))) μ)) (
 some (.ret (LV.bool false) μ)))) (
 cond (decide ((65 : Int) ≤ a)) (
 some (.ret (LV.bool (decide (a≤(90:Int)))) μ)) (
 some (.ret (LV.bool false) μ))):=by kernel_rfl
theorem SS (a μ):aH E ρ 93 [LV.int .u8 a] μ=
 callK (ρ.call 90 [LV.int .u8 a] μ) (fun v1 μ2 =>
 opt (aQ v1) fun b5=>
 cond (b5) (
 some (.ret (LV.bool true) μ2)) (
 callK (ρ.call 132 [LV.int .u8 a] μ2) (fun v6 μ7 =>
 opt (aQ v6) fun b10=>
 cond (b10) (
 some (.ret (LV.bool true) μ7)) (
 some (.ret (LV.bool (decide (a=(95:Int)))) μ7))) pP)) pP:=by kernel_rfl
def Jc (x0:List CV)(x1:List UInt8)(x7 x8:Int):SegD:=⟨H94,[],cA 94 [1,0,1,0,0],mS [(0,LV.cv (CV.sl x0)),(1,LV.str x1),(7,LV.int .i64 x7),(8,LV.int .i64 x8)] []⟩
def Fo (x0:List CV)(x1:List UInt8)(x7 x8:Int)(μ:Mu):=(Jc x0 x1 x7 x8).loop ρ μ
def uv (x4:Int)(μ:Mu):St:= .ret (mS [(4,LV.int .i64 x4)] []) μ
def uw (μ:Mu):St:= .exit 0 (mS [] []) μ
theorem ED (x0 x1 x7 x8 μ):(Jc x0 x1 x7 x8).rK ρ μ=
 cond (decide (x8 < x7)) (
 opt (bZ x0 x8) fun c1=>
 opt (aN (LV.cv c1)) fun s2=>
 cond (decide (x1 = s2)) (
 some (uv x8 μ)) (
 Fo ρ x0 x1 x7 (IntKind.wrap .i64 (x8+(1:Int))) μ)) (
 some (uw μ)):=by kernel_rfl
theorem G9 (x4 μ):kB ρ 94 H94 [.block 0,.seq (cA 94 [1,1])] (uv x4 μ)=
 some (.ret (LV.int .i64 x4) μ):=by kernel_rfl
theorem Ha (μ):kB ρ 94 H94 [.block 0,.seq (cA 94 [1,1])] (uw μ)=
 some (.ret (LV.int .i64 (-1:Int)) μ):=by kernel_rfl
theorem ST (a b μ):aH E ρ 94 [LV.cv (CV.sl a),LV.str b] μ=
 opt (Fo ρ a b (List.length a:Int) (0:Int) μ) (kB ρ 94 H94 [.block 0,.seq (cA 94 [1,1])]):=by kernel_rfl
def IW (x0:List UInt8):SegD:=⟨H95,[(2,0)],cA 95 [1,1],mS [(0,LV.str x0)] []⟩
def Ni (x0:List UInt8)(μ:Mu):=(IW x0).seg ρ μ
def Jd (x0:List UInt8)(x19 x20:Int):SegD:=⟨H95,[],cA 95 [1,1,0,1,0,0],mS [(0,LV.str x0),(19,LV.int .i64 x19),(20,LV.int .i64 x20)] []⟩
def u4 (x0:List UInt8)(x19 x20:Int)(μ:Mu):=(Jd x0 x19 x20).loop ρ μ
def ux (x2:Bool)(μ:Mu):St:= .ret (mS [(2,LV.bool x2)] []) μ
def zF (pv:CV)(μ:Mu):St:= .panic pv (mS [] []) μ
def uy (μ:Mu):St:= .exit 0 (mS [] []) μ
def pm (x2:Bool)(μ:Mu):St:= .ret (mS [(2,LV.bool x2)] []) μ
theorem EE (x0 x19 x20 μ):(Jd x0 x19 x20).rK ρ μ=
 cond (decide (x20 < x19)) (
 opt (bo x0 x20) fun y7=>
 cond (!decide ((y7.toNat : Int) = (95 : Int))) (
 callK (ρ.call 133 [LV.int .u8 (y7.toNat : Int)] μ) (fun v8 μ9 =>
 opt (aQ v8) fun b12=>
 cond (!b12) (
 callK (ρ.call 114 [LV.int .u8 (y7.toNat : Int)] μ9) (fun v13 μ14 =>
 opt (aQ v13) fun b17=>
 cond (!b17) (
 some (ux false μ14)) (
 u4 ρ x0 x19 (IntKind.wrap .i64 (x20+(1:Int))) μ14)) (pX zF)) (
 u4 ρ x0 x19 (IntKind.wrap .i64 (x20+(1:Int))) μ9)) (pX zF)) (
 u4 ρ x0 x19 (IntKind.wrap .i64 (x20+(1:Int))) μ)) (
 some (uy μ)):=by kernel_rfl
theorem Hb (x2 μ):kS ρ H95 [.block 0,.seq (cA 95 [1,1,1])] [(2,0)] (ux x2 μ)=
 some (pm x2 μ):=by kernel_rfl
theorem Hc (μ):kS ρ H95 [.block 0,.seq (cA 95 [1,1,1])] [(2,0)] (uy μ)=
 some (pm true μ):=by kernel_rfl
theorem OU (x0 μ):(IW x0).sK ρ μ=
 opt (u4 ρ x0 (List.length x0:Int) (0:Int) μ) (kS ρ H95 [.block 0,.seq (cA 95 [1,1,1])] [(2,0)]):=by kernel_rfl
theorem GF (x2 μ):kB ρ 95 H95 [] (pm x2 μ)=
 some (.ret (LV.bool x2) μ):=by kernel_rfl
theorem SU (a μ):aH E ρ 95 [LV.str a] μ=
 cond (decide (a = ([] : List UInt8))) (
 some (.ret (LV.bool false) μ)) (
 cond (decide ((31 : Int) < (List.length a : Int))) (
 some (.ret (LV.bool false) μ)) (
 opt (bo a (0:Int)) fun y1=>
 callK (ρ.call 133 [LV.int .u8 (y1.toNat : Int)] μ) (fun v2 μ3 =>
 opt (aQ v2) fun b6=>
 cond (!b6) (
 some (.ret (LV.bool false) μ3)) (
 opt (Ni ρ a μ3) (kB ρ 95 H95 []))) pP)):=by kernel_rfl
theorem SV (a μ):aH E ρ 96 [LV.int .u8 a] μ=
 cond (decide ((65 : Int) ≤ a)) (
 cond (decide (a ≤ (90 : Int))) (
 some (.ret (LV.bool true) μ)) (
 cond (decide ((97 : Int) ≤ a)) (
 some (.ret (LV.bool (decide (a≤(122:Int)))) μ)) (
 some (.ret (LV.bool false) μ)))) (
 cond (decide ((97 : Int) ≤ a)) (
 some (.ret (LV.bool (decide (a≤(122:Int)))) μ)) (
 some (.ret (LV.bool false) μ))):=by kernel_rfl
def Je (x3:Nat)(x4:Int)(o0:List CV):SegD:=⟨H97,[(3,0)],cA 97 [1,1,0,1,0,0],mS [(3,LV.lsl 0 0 x3),(4,LV.int .i64 x4)] [Ob.arr 1 o0]⟩
def se (x3:Nat)(x4:Int)(o0:List CV)(μ:Mu):=(Je x3 x4 o0).loop ρ μ
def pr (x3:Nat)(o0:List CV)(μ:Mu):St:= .exit 0 (mS [(3,LV.lsl 0 0 x3)] [Ob.arr 1 o0]) μ
theorem EF (x3 x4 o0 μ):(Je x3 x4 o0).rK ρ μ=
 cond (decide (x4 < (x3 : Int))) (
 ay (en x4 x3) (
 opt (bH E.P 5 (Ob.arr 1 o0) (0+(x4).toNat*1)) fun v1=>
 opt (aI .u8 v1) fun n2=>
 cond (decide ((97 : Int) ≤ n2)) (
 ay (en x4 x3) (
 opt (bH E.P 5 (Ob.arr 1 o0) (0+(x4).toNat*1)) fun v3=>
 opt (aI .u8 v3) fun n4=>
 cond (decide (n4 ≤ (122 : Int))) (
 ay (en x4 x3) (
 opt (bH E.P 5 (Ob.arr 1 o0) (0+(x4).toNat*1)) fun v5=>
 opt (aI .u8 v5) fun n6=>
 ay (en x4 x3) (
 ay (fg 1 (CV.int .u8 (IntKind.wrap .u8 (IntKind.wrap .u8 (n6 - (97 : Int)) + (65 : Int)))) && Nat.ble (0 + (x4).toNat * 1 + 1) (List.length o0)) (
 se ρ x3 (IntKind.wrap .i64 (x4+(1:Int))) (cP o0 (0+(x4).toNat*1) (CV.cells (CV.int .u8 (IntKind.wrap .u8 (IntKind.wrap .u8 (n6-(97:Int))+(65:Int)))))) μ)))) (
 se ρ x3 (IntKind.wrap .i64 (x4+(1:Int))) o0 μ))) (
 se ρ x3 (IntKind.wrap .i64 (x4+(1:Int))) o0 μ))) (
 some (pr x3 o0 μ)):=by kernel_rfl
theorem Hd (x3 o0 μ):kB ρ 97 H97 [.block 0,.seq (cA 97 [1,1,1])] (pr x3 o0 μ)=
 ay (Nat.ble (0 + x3) (List.length o0)) (
 opt (bi (List.take x3 (List.drop 0 o0))) fun s7=>
 some (.ret (LV.str s7) μ)):=by kernel_rfl
theorem SW (a μ):aH E ρ 97 [LV.str a] μ=
 ay (bn (List.length a)) (
 opt (se ρ (List.length a) (0:Int) (br a) μ) (kB ρ 97 H97 [.block 0,.seq (cA 97 [1,1,1])])):=by kernel_rfl
def Jf (x0:List UInt8)(x1 x5 x6:Int)(x7:Bool)(x30:List CV)(x31 x32 o0_0 o0_1:Int)(o0_2:List UInt8)(o0_3 o0_4:Int):SegD:=⟨H98,[(0,0),(1,0),(4,0),(5,0),(6,0),(7,0)],cA 98 [1,1,1,1,0,1,0,0],mS [(0,LV.str x0),(1,LV.int .i64 x1),(4,LV.loc 0 0),(5,LV.int .i64 x5),(6,LV.int .i64 x6),(7,LV.bool x7),(30,LV.cv (CV.sl x30)),(31,LV.int .i64 x31),(32,LV.int .i64 x32)] [Ob.cells [LV.int .i64 o0_0,LV.int .i64 o0_1,LV.str o0_2,LV.int .i64 o0_3,LV.int .i64 o0_4]]⟩
def u5 (x0:List UInt8)(x1 x5 x6:Int)(x7:Bool)(x30:List CV)(x31 x32 o0_0 o0_1:Int)(o0_2:List UInt8)(o0_3 o0_4:Int)(μ:Mu):=(Jf x0 x1 x5 x6 x7 x30 x31 x32 o0_0 o0_1 o0_2 o0_3 o0_4).loop ρ μ
def Lk (pv:CV)(μ:Mu):St:= .panic pv (mS [] []) μ
def uz (x0:List UInt8)(x1 x5 x6:Int)(x7:Bool)(o0_0 o0_1:Int)(o0_2:List UInt8)(o0_3 o0_4:Int)(μ:Mu):St:= .exit 0 (mS [(0,LV.str x0),(1,LV.int .i64 x1),(4,LV.loc 0 0),(5,LV.int .i64 x5),(6,LV.int .i64 x6),(7,LV.bool x7)] [Ob.cells [LV.int .i64 o0_0,LV.int .i64 o0_1,LV.str o0_2,LV.int .i64 o0_3,LV.int .i64 o0_4]]) μ
def DP (x0:List UInt8)(x1 x5 x6:Int)(x7 x10:Bool)(x11 o0_0 o0_1:Int)(o0_2:List UInt8)(o0_3 o0_4:Int):SegD:=⟨H98,[(4,0)],cA 98 [1,1,1,1,1,1,1],mS [(0,LV.str x0),(1,LV.int .i64 x1),(4,LV.loc 0 0),(5,LV.int .i64 x5),(6,LV.int .i64 x6),(7,LV.bool x7),(10,LV.bool x10),(11,LV.int .i64 x11)] [Ob.cells [LV.int .i64 o0_0,LV.int .i64 o0_1,LV.str o0_2,LV.int .i64 o0_3,LV.int .i64 o0_4]]⟩
def oa (x0:List UInt8)(x1 x5 x6:Int)(x7 x10:Bool)(x11 o0_0 o0_1:Int)(o0_2:List UInt8)(o0_3 o0_4:Int)(μ:Mu):=(DP x0 x1 x5 x6 x7 x10 x11 o0_0 o0_1 o0_2 o0_3 o0_4).seg ρ μ
def DQ (x0:List UInt8)(x1 x5 x6:Int)(x10:Bool)(x11 x12 x13:Int)(x14:Bool)(x15 o0_0 o0_1:Int)(o0_2:List UInt8)(o0_3 o0_4:Int):SegD:=⟨H98,[(0,0),(1,0),(4,0),(5,0),(6,0),(10,0),(11,0),(12,0),(13,0),(14,0)],cA 98 [1,1,1,1,1,1,1,1,1,0,1,0,1,1],mS [(0,LV.str x0),(1,LV.int .i64 x1),(4,LV.loc 0 0),(5,LV.int .i64 x5),(6,LV.int .i64 x6),(10,LV.bool x10),(11,LV.int .i64 x11),(12,LV.int .i64 x12),(13,LV.int .i64 x13),(14,LV.bool x14),(15,LV.int .i64 x15)] [Ob.cells [LV.int .i64 o0_0,LV.int .i64 o0_1,LV.str o0_2,LV.int .i64 o0_3,LV.int .i64 o0_4]]⟩
def da (x0:List UInt8)(x1 x5 x6:Int)(x10:Bool)(x11 x12 x13:Int)(x14:Bool)(x15 o0_0 o0_1:Int)(o0_2:List UInt8)(o0_3 o0_4:Int)(μ:Mu):=(DQ x0 x1 x5 x6 x10 x11 x12 x13 x14 x15 o0_0 o0_1 o0_2 o0_3 o0_4).seg ρ μ
def qO (o0_0 o0_1:Int)(o0_2:List UInt8)(o0_3 o0_4:Int)(μ:Mu):St:= .ret (mS [(4,LV.loc 0 0)] [Ob.cells [LV.int .i64 o0_0,LV.int .i64 o0_1,LV.str o0_2,LV.int .i64 o0_3,LV.int .i64 o0_4]]) μ
def DR (x0:List UInt8)(x1 x5 x6:Int)(x10:Bool)(x11 x12 x15 x16 o0_0 o0_1:Int)(o0_2:List UInt8)(o0_3 o0_4:Int):SegD:=⟨H98,[(0,0),(1,0),(4,0),(5,0),(6,0),(10,0),(11,0),(12,0),(13,0),(14,0)],cA 98 [1,1,1,1,1,1,1,1,1,0,1,0,1,1,1,1,0,1],mS [(0,LV.str x0),(1,LV.int .i64 x1),(4,LV.loc 0 0),(5,LV.int .i64 x5),(6,LV.int .i64 x6),(10,LV.bool x10),(11,LV.int .i64 x11),(12,LV.int .i64 x12),(15,LV.int .i64 x15),(16,LV.int .i64 x16)] [Ob.cells [LV.int .i64 o0_0,LV.int .i64 o0_1,LV.str o0_2,LV.int .i64 o0_3,LV.int .i64 o0_4]]⟩
def HT (x0:List UInt8)(x1 x5 x6:Int)(x10:Bool)(x11 x12 x15 x16 o0_0 o0_1:Int)(o0_2:List UInt8)(o0_3 o0_4:Int)(μ:Mu):=(DR x0 x1 x5 x6 x10 x11 x12 x15 x16 o0_0 o0_1 o0_2 o0_3 o0_4).seg ρ μ
def DS (x0:List UInt8)(x1 x5 x6:Int)(x10:Bool)(x11 x12 x13:Int)(x14:Bool)(x15 x16 o0_0 o0_1:Int)(o0_2:List UInt8)(o0_3 o0_4:Int):SegD:=⟨H98,[(0,0),(1,0),(4,0),(5,0),(6,0),(10,0),(11,0),(12,0),(13,0),(14,0)],cA 98 [1,1,1,1,1,1,1,1,1,0,1,0,1,1,1,1,0,1,1,1,1],mS [(0,LV.str x0),(1,LV.int .i64 x1),(4,LV.loc 0 0),(5,LV.int .i64 x5),(6,LV.int .i64 x6),(10,LV.bool x10),(11,LV.int .i64 x11),(12,LV.int .i64 x12),(13,LV.int .i64 x13),(14,LV.bool x14),(15,LV.int .i64 x15),(16,LV.int .i64 x16)] [Ob.cells [LV.int .i64 o0_0,LV.int .i64 o0_1,LV.str o0_2,LV.int .i64 o0_3,LV.int .i64 o0_4]]⟩
def zl (x0:List UInt8)(x1 x5 x6:Int)(x10:Bool)(x11 x12 x13:Int)(x14:Bool)(x15 x16 o0_0 o0_1:Int)(o0_2:List UInt8)(o0_3 o0_4:Int)(μ:Mu):=(DS x0 x1 x5 x6 x10 x11 x12 x13 x14 x15 x16 o0_0 o0_1 o0_2 o0_3 o0_4).seg ρ μ
def kY (x0:List UInt8)(x1 x5 x6:Int)(x10:Bool)(x11 x12 x13:Int)(x14:Bool)(o0_0 o0_1:Int)(o0_2:List UInt8)(o0_3 o0_4:Int)(μ:Mu):St:= .norm (mS [(0,LV.str x0),(1,LV.int .i64 x1),(4,LV.loc 0 0),(5,LV.int .i64 x5),(6,LV.int .i64 x6),(10,LV.bool x10),(11,LV.int .i64 x11),(12,LV.int .i64 x12),(13,LV.int .i64 x13),(14,LV.bool x14)] [Ob.cells [LV.int .i64 o0_0,LV.int .i64 o0_1,LV.str o0_2,LV.int .i64 o0_3,LV.int .i64 o0_4]]) μ
def qP (x0:List UInt8)(x1 x5 x6:Int)(x10:Bool)(x11 x12 x13:Int)(x14:Bool)(o0_0 o0_1:Int)(o0_2:List UInt8)(o0_3 o0_4:Int)(μ:Mu):St:= .norm (mS [(0,LV.str x0),(1,LV.int .i64 x1),(4,LV.loc 0 0),(5,LV.int .i64 x5),(6,LV.int .i64 x6),(10,LV.bool x10),(11,LV.int .i64 x11),(12,LV.int .i64 x12),(13,LV.int .i64 x13),(14,LV.bool x14)] [Ob.cells [LV.int .i64 o0_0,LV.int .i64 o0_1,LV.str o0_2,LV.int .i64 o0_3,LV.int .i64 o0_4]]) μ
def Ie (pv:CV)(μ:Mu):St:= .panic pv (mS [] []) μ
def kX (x0:List UInt8)(x1 x5 x6:Int)(x10:Bool)(x11 x12 x13:Int)(x14:Bool)(o0_0 o0_1:Int)(o0_2:List UInt8)(o0_3 o0_4:Int)(μ:Mu):St:= .norm (mS [(0,LV.str x0),(1,LV.int .i64 x1),(4,LV.loc 0 0),(5,LV.int .i64 x5),(6,LV.int .i64 x6),(10,LV.bool x10),(11,LV.int .i64 x11),(12,LV.int .i64 x12),(13,LV.int .i64 x13),(14,LV.bool x14)] [Ob.cells [LV.int .i64 o0_0,LV.int .i64 o0_1,LV.str o0_2,LV.int .i64 o0_3,LV.int .i64 o0_4]]) μ
def Id (pv:CV)(μ:Mu):St:= .panic pv (mS [] []) μ
def fQ (o0_0 o0_1:Int)(o0_2:List UInt8)(o0_3 o0_4:Int)(μ:Mu):St:= .ret (mS [(4,LV.loc 0 0)] [Ob.cells [LV.int .i64 o0_0,LV.int .i64 o0_1,LV.str o0_2,LV.int .i64 o0_3,LV.int .i64 o0_4]]) μ
def DT (x0:List UInt8)(x1 x5 x6:Int)(x10:Bool)(x11 x12 x13:Int)(x14:Bool)(o0_0 o0_1:Int)(o0_2:List UInt8)(o0_3 o0_4:Int):SegD:=⟨H98,[(4,0)],cA 98 [1,1,1,1,1,1,1,1,1,1],mS [(0,LV.str x0),(1,LV.int .i64 x1),(4,LV.loc 0 0),(5,LV.int .i64 x5),(6,LV.int .i64 x6),(10,LV.bool x10),(11,LV.int .i64 x11),(12,LV.int .i64 x12),(13,LV.int .i64 x13),(14,LV.bool x14)] [Ob.cells [LV.int .i64 o0_0,LV.int .i64 o0_1,LV.str o0_2,LV.int .i64 o0_3,LV.int .i64 o0_4]]⟩
def oc (x0:List UInt8)(x1 x5 x6:Int)(x10:Bool)(x11 x12 x13:Int)(x14:Bool)(o0_0 o0_1:Int)(o0_2:List UInt8)(o0_3 o0_4:Int)(μ:Mu):=(DT x0 x1 x5 x6 x10 x11 x12 x13 x14 o0_0 o0_1 o0_2 o0_3 o0_4).seg ρ μ
def jf (o0_0 o0_1:Int)(o0_2:List UInt8)(o0_3 o0_4:Int)(μ:Mu):St:= .ret (mS [(4,LV.loc 0 0)] [Ob.cells [LV.int .i64 o0_0,LV.int .i64 o0_1,LV.str o0_2,LV.int .i64 o0_3,LV.int .i64 o0_4]]) μ
def DU (x0:List UInt8)(x1 x5 x6 o0_0 o0_1:Int)(o0_2:List UInt8)(o0_3 o0_4:Int):SegD:=⟨H98,[(0,0),(1,0),(4,0),(5,0),(6,0),(10,0),(11,0),(12,0),(13,0)],cA 98 [1,1,1,1,1,1,1,1,1,1,0,1,0,1],mS [(0,LV.str x0),(1,LV.int .i64 x1),(4,LV.loc 0 0),(5,LV.int .i64 x5),(6,LV.int .i64 x6)] [Ob.cells [LV.int .i64 o0_0,LV.int .i64 o0_1,LV.str o0_2,LV.int .i64 o0_3,LV.int .i64 o0_4]]⟩
def HU (x0:List UInt8)(x1 x5 x6 o0_0 o0_1:Int)(o0_2:List UInt8)(o0_3 o0_4:Int)(μ:Mu):=(DU x0 x1 x5 x6 o0_0 o0_1 o0_2 o0_3 o0_4).seg ρ μ
def kZ (o0_0 o0_1:Int)(o0_2:List UInt8)(o0_3 o0_4:Int)(μ:Mu):St:= .ret (mS [(4,LV.loc 0 0)] [Ob.cells [LV.int .i64 o0_0,LV.int .i64 o0_1,LV.str o0_2,LV.int .i64 o0_3,LV.int .i64 o0_4]]) μ
def If (pv:CV)(μ:Mu):St:= .panic pv (mS [] []) μ
def DV (x0:List UInt8)(x1 x5 x6:Int)(x10:Bool)(x11 x12 x13 o0_0 o0_1:Int)(o0_2:List UInt8)(o0_3 o0_4:Int):SegD:=⟨H98,[(4,0)],cA 98 [1,1,1,1,1,1,1,1,1,1,1],mS [(0,LV.str x0),(1,LV.int .i64 x1),(4,LV.loc 0 0),(5,LV.int .i64 x5),(6,LV.int .i64 x6),(10,LV.bool x10),(11,LV.int .i64 x11),(12,LV.int .i64 x12),(13,LV.int .i64 x13)] [Ob.cells [LV.int .i64 o0_0,LV.int .i64 o0_1,LV.str o0_2,LV.int .i64 o0_3,LV.int .i64 o0_4]]⟩
def u3 (x0:List UInt8)(x1 x5 x6:Int)(x10:Bool)(x11 x12 x13 o0_0 o0_1:Int)(o0_2:List UInt8)(o0_3 o0_4:Int)(μ:Mu):=(DV x0 x1 x5 x6 x10 x11 x12 x13 o0_0 o0_1 o0_2 o0_3 o0_4).seg ρ μ
def DW (x0:List UInt8)(x1 x5 x6 x12 x13:Int)(x18:List UInt8)(o0_0 o0_1:Int)(o0_2:List UInt8)(o0_3 o0_4:Int):SegD:=⟨H98,[(4,0)],cA 98 [1,1,1,1,1,1,1,1,1,1,1,1,1],mS [(0,LV.str x0),(1,LV.int .i64 x1),(4,LV.loc 0 0),(5,LV.int .i64 x5),(6,LV.int .i64 x6),(12,LV.int .i64 x12),(13,LV.int .i64 x13),(18,LV.str x18)] [Ob.cells [LV.int .i64 o0_0,LV.int .i64 o0_1,LV.str o0_2,LV.int .i64 o0_3,LV.int .i64 o0_4]]⟩
def zm (x0:List UInt8)(x1 x5 x6 x12 x13:Int)(x18:List UInt8)(o0_0 o0_1:Int)(o0_2:List UInt8)(o0_3 o0_4:Int)(μ:Mu):=(DW x0 x1 x5 x6 x12 x13 x18 o0_0 o0_1 o0_2 o0_3 o0_4).seg ρ μ
def k7 (o0_0 o0_1:Int)(o0_2:List UInt8)(o0_3 o0_4:Int)(μ:Mu):St:= .ret (mS [(4,LV.loc 0 0)] [Ob.cells [LV.int .i64 o0_0,LV.int .i64 o0_1,LV.str o0_2,LV.int .i64 o0_3,LV.int .i64 o0_4]]) μ
def DX (x6 x12 x13:Int)(x19 x20:List UInt8)(o0_0 o0_1:Int)(o0_2:List UInt8)(o0_3 o0_4:Int):SegD:=⟨H98,[(4,0)],cA 98 [1,1,1,1,1,1,1,1,1,1,1,1,1,1,1],mS [(4,LV.loc 0 0),(6,LV.int .i64 x6),(12,LV.int .i64 x12),(13,LV.int .i64 x13),(19,LV.str x19),(20,LV.str x20)] [Ob.cells [LV.int .i64 o0_0,LV.int .i64 o0_1,LV.str o0_2,LV.int .i64 o0_3,LV.int .i64 o0_4]]⟩
def HV (x6 x12 x13:Int)(x19 x20:List UInt8)(o0_0 o0_1:Int)(o0_2:List UInt8)(o0_3 o0_4:Int)(μ:Mu):=(DX x6 x12 x13 x19 x20 o0_0 o0_1 o0_2 o0_3 o0_4).seg ρ μ
def k8 (o0_0 o0_1:Int)(o0_2:List UInt8)(o0_3 o0_4:Int)(μ:Mu):St:= .ret (mS [(4,LV.loc 0 0)] [Ob.cells [LV.int .i64 o0_0,LV.int .i64 o0_1,LV.str o0_2,LV.int .i64 o0_3,LV.int .i64 o0_4]]) μ
def xC (pv:CV)(μ:Mu):St:= .panic pv (mS [] []) μ
def jg (pv:CV)(μ:Mu):St:= .panic pv (mS [] []) μ
def ng (o0_0 o0_1:Int)(o0_2:List UInt8)(o0_3 o0_4:Int)(μ:Mu):St:= .ret (mS [(4,LV.loc 0 0)] [Ob.cells [LV.int .i64 o0_0,LV.int .i64 o0_1,LV.str o0_2,LV.int .i64 o0_3,LV.int .i64 o0_4]]) μ
theorem EG (x0 x1 x5 x6 x7 x30 x31 x32 o0_0 o0_1 o0_2 o0_3 o0_4 μ):(Jf x0 x1 x5 x6 x7 x30 x31 x32 o0_0 o0_1 o0_2 o0_3 o0_4).rK ρ μ=
 cond (decide (x32 < x31)) (
 opt (bZ x30 x32) fun c11=>
 opt (aN (LV.cv c11)) fun s12=>
 cond (x7) (
 u5 ρ x0 x1 x5 x6 true x30 x31 (IntKind.wrap .i64 (x32+(1:Int))) o0_0 o0_1 o0_2 o0_3 o0_4 μ) (
 cond (decide ((0 : Int) < x5)) (
 callK (ρ.call 99 [LV.str x0, LV.int .i64 x6, LV.str s12] μ) (fun v13 μ14 =>
 opt (aQ v13) fun b17=>
 u5 ρ x0 x1 x5 x6 b17 x30 x31 (IntKind.wrap .i64 (x32+(1:Int))) o0_0 o0_1 o0_2 o0_3 o0_4 μ14) (pX Lk)) (
 u5 ρ x0 x1 x5 x6 false x30 x31 (IntKind.wrap .i64 (x32+(1:Int))) o0_0 o0_1 o0_2 o0_3 o0_4 μ))) (
 some (uz x0 x1 x5 x6 x7 o0_0 o0_1 o0_2 o0_3 o0_4 μ)):=by kernel_rfl
theorem Mk (x0 x1 x5 x6 x10 x11 x12 x13 x14 x15 x16 o0_0 o0_1 o0_2 o0_3 o0_4 μ):(DS x0 x1 x5 x6 x10 x11 x12 x13 x14 x15 x16 o0_0 o0_1 o0_2 o0_3 o0_4).sK ρ μ=
 opt (bo x0 x6) fun y38=>
 cond (decide ((y38.toNat : Int) = (68 : Int))) (
 some (kY x0 x1 x5 (IntKind.wrap .i64 (x15+x16)) x10 x11 (2:Int) x13 x14 o0_0 o0_1 o0_2 o0_3 o0_4 μ)) (
 opt (bo x0 x6) fun y39=>
 cond (decide ((y39.toNat : Int) = (100 : Int))) (
 some (kY x0 x1 x5 (IntKind.wrap .i64 (x15+x16)) x10 x11 (2:Int) x13 x14 o0_0 o0_1 o0_2 o0_3 o0_4 μ)) (
 some (kY x0 x1 x5 (IntKind.wrap .i64 (x15+x16)) x10 x11 x12 x13 x14 o0_0 o0_1 o0_2 o0_3 o0_4 μ))):=by kernel_rfl
theorem tk (x0 x1 x5 x6 x10 x11 x12 x13 x14 o0_0 o0_1 o0_2 o0_3 o0_4 μ):kS ρ H98 [] [(0,0),(1,0),(4,0),(5,0),(6,0),(10,0),(11,0),(12,0),(13,0),(14,0)] (kY x0 x1 x5 x6 x10 x11 x12 x13 x14 o0_0 o0_1 o0_2 o0_3 o0_4 μ)=
 some (qP x0 x1 x5 x6 x10 x11 x12 x13 x14 o0_0 o0_1 o0_2 o0_3 o0_4 μ):=by kernel_rfl
theorem Mj (x0 x1 x5 x6 x10 x11 x12 x15 x16 o0_0 o0_1 o0_2 o0_3 o0_4 μ):(DR x0 x1 x5 x6 x10 x11 x12 x15 x16 o0_0 o0_1 o0_2 o0_3 o0_4).sK ρ μ=
 opt (di x0 x15 (IntKind.wrap .i64 (x15+x16))) fun s31=>
 callK (ρ.call 120 [LV.str s31] μ) (fun v32 μ33 =>
 opt (aI .i64 v32) fun n36=>
 opt (bo x0 (IntKind.wrap .i64 (x15-(1:Int)))) fun y37=>
 cond (decide ((y37.toNat : Int) = (45 : Int))) (
 opt (zl ρ x0 x1 x5 x6 x10 x11 x12 (IntKind.wrap .i64 (0-n36)) true x15 x16 o0_0 o0_1 o0_2 o0_3 o0_4 μ33) (kS ρ H98 [] [(0,0),(1,0),(4,0),(5,0),(6,0),(10,0),(11,0),(12,0),(13,0),(14,0)])) (
 opt (zl ρ x0 x1 x5 x6 x10 x11 x12 n36 true x15 x16 o0_0 o0_1 o0_2 o0_3 o0_4 μ33) (kS ρ H98 [] [(0,0),(1,0),(4,0),(5,0),(6,0),(10,0),(11,0),(12,0),(13,0),(14,0)]))) (pX Ie):=by kernel_rfl
theorem CH (x0 x1 x5 x6 x10 x11 x12 x13 x14 o0_0 o0_1 o0_2 o0_3 o0_4 μ):kS ρ H98 [] [(0,0),(1,0),(4,0),(5,0),(6,0),(10,0),(11,0),(12,0),(13,0),(14,0)] (qP x0 x1 x5 x6 x10 x11 x12 x13 x14 o0_0 o0_1 o0_2 o0_3 o0_4 μ)=
 some (kX x0 x1 x5 x6 x10 x11 x12 x13 x14 o0_0 o0_1 o0_2 o0_3 o0_4 μ):=by kernel_rfl
theorem Mi (x0 x1 x5 x6 x10 x11 x12 x13 x14 x15 o0_0 o0_1 o0_2 o0_3 o0_4 μ):(DQ x0 x1 x5 x6 x10 x11 x12 x13 x14 x15 o0_0 o0_1 o0_2 o0_3 o0_4).sK ρ μ=
 callK (ρ.call 47 [LV.str x0, LV.int .i64 x15] μ) (fun v26 μ27 =>
 opt (aI .i64 v26) fun n30=>
 cond (decide ((0 : Int) < n30)) (
 cond (decide ((3 : Int) < n30)) (
 some (qO (0:Int) (0:Int) ([]:List UInt8) (0:Int) (7:Int) μ27)) (
 opt (HT ρ x0 x1 x5 x6 x10 x11 x12 x15 n30 o0_0 o0_1 o0_2 o0_3 o0_4 μ27) (kS ρ H98 [] [(0,0),(1,0),(4,0),(5,0),(6,0),(10,0),(11,0),(12,0),(13,0),(14,0)]))) (
 some (kX x0 x1 x5 x6 x10 x11 x12 x13 x14 o0_0 o0_1 o0_2 o0_3 o0_4 μ27))) (pX Id):=by kernel_rfl
theorem CG (o0_0 o0_1 o0_2 o0_3 o0_4 μ):kS ρ H98 [.seq (cA 98 [1,1,1,1,1,1,1,1,1,1])] [(4,0)] (qO o0_0 o0_1 o0_2 o0_3 o0_4 μ)=
 some (fQ o0_0 o0_1 o0_2 o0_3 o0_4 μ):=by kernel_rfl
theorem Mm (x0 x1 x5 x6 o0_0 o0_1 o0_2 o0_3 o0_4 μ):(DU x0 x1 x5 x6 o0_0 o0_1 o0_2 o0_3 o0_4).sK ρ μ=
 opt (di x0 x1 (IntKind.wrap .i64 (x1+x5))) fun s43=>
 callK (ρ.call 69 [LV.str s43] μ) (fun v44 μ45 =>
 opt (aN v44) fun s48=>
 cond (decide ((List.length s48 : Int) = (10 : Int))) (
 cond (!(Op.bytesLess s48 ([50, 49, 52, 55, 52, 56, 51, 54, 52, 55] : List UInt8) || decide (s48 = ([50, 49, 52, 55, 52, 56, 51, 54, 52, 55] : List UInt8)))) (
 some (kZ (0:Int) (0:Int) ([]:List UInt8) (0:Int) (28:Int) μ45)) (
 some (kZ (1:Int) (0:Int) s48 x6 (0:Int) μ45))) (
 some (kZ (1:Int) (0:Int) s48 x6 (0:Int) μ45))) (pX If):=by kernel_rfl
theorem tn (o0_0 o0_1 o0_2 o0_3 o0_4 μ):kS ρ H98 [.seq (cA 98 [1,1,1,1,1,1,1,1,1,1,1])] [(4,0)] (kZ o0_0 o0_1 o0_2 o0_3 o0_4 μ)=
 some (jf o0_0 o0_1 o0_2 o0_3 o0_4 μ):=by kernel_rfl
theorem Mo (x6 x12 x13 x19 x20 o0_0 o0_1 o0_2 o0_3 o0_4 μ):(DX x6 x12 x13 x19 x20 o0_0 o0_1 o0_2 o0_3 o0_4).sK ρ μ=
 ay (bn (List.length x19 + List.length ([46] : List UInt8))) (
 ay (bn (List.length (x19 ++ ([46] : List UInt8)) + List.length x20)) (
 cond (decide (x12 = (2 : Int))) (
 ay (bn (List.length ((x19 ++ ([46] : List UInt8)) ++ x20) + List.length ([68] : List UInt8))) (
 callK (ρ.call 71 [LV.int .i64 x13] μ) (fun v82 μ83 =>
 opt (aN v82) fun s86=>
 ay (bn (List.length (((x19 ++ ([46] : List UInt8)) ++ x20) ++ ([68] : List UInt8)) + List.length s86)) (
 some (k8 (1:Int) x12 ((((x19++([46]:List UInt8))++x20)++([68]:List UInt8))++s86) x6 (0:Int) μ83))) (pX xC))) (
 cond (!decide (x13 = (0 : Int))) (
 ay (bn (List.length ((x19 ++ ([46] : List UInt8)) ++ x20) + List.length ([69] : List UInt8))) (
 callK (ρ.call 71 [LV.int .i64 x13] μ) (fun v87 μ88 =>
 opt (aN v87) fun s91=>
 ay (bn (List.length (((x19 ++ ([46] : List UInt8)) ++ x20) ++ ([69] : List UInt8)) + List.length s91)) (
 some (k8 (1:Int) x12 ((((x19++([46]:List UInt8))++x20)++([69]:List UInt8))++s91) x6 (0:Int) μ88))) (pX xC))) (
 some (k8 (1:Int) x12 ((x19++([46]:List UInt8))++x20) x6 (0:Int) μ))))):=by kernel_rfl
theorem CI (o0_0 o0_1 o0_2 o0_3 o0_4 μ):kS ρ H98 [] [(4,0)] (k8 o0_0 o0_1 o0_2 o0_3 o0_4 μ)=
 some (k7 o0_0 o0_1 o0_2 o0_3 o0_4 μ):=by kernel_rfl
theorem Mn (x0 x1 x5 x6 x12 x13 x18 o0_0 o0_1 o0_2 o0_3 o0_4 μ):(DW x0 x1 x5 x6 x12 x13 x18 o0_0 o0_1 o0_2 o0_3 o0_4).sK ρ μ=
 opt (di x0 x1 (IntKind.wrap .i64 (x1+x5))) fun s51=>
 callK (ρ.call 70 [LV.str s51] μ) (fun v52 μ53 =>
 opt (aN v52) fun s56=>
 callK (ρ.call 69 [LV.str s56] μ53) (fun v57 μ58 =>
 opt (aN v57) fun s61=>
 callK (ρ.call 70 [LV.str x18] μ58) (fun v62 μ63 =>
 opt (aN v62) fun s66=>
 callK (ρ.call 134 [LV.str s66] μ63) (fun v67 μ68 =>
 opt (aN v67) fun s71=>
 callK (ρ.call 135 [LV.str s61] μ68) (fun v72 μ73 =>
 opt (aI .i64 v72) fun n76=>
 callK (ρ.call 135 [LV.str s71] μ73) (fun v77 μ78 =>
 opt (aI .i64 v77) fun n81=>
 cond (decide ((30 : Int) < IntKind.wrap .i64 (n76 + n81))) (
 some (k7 (0:Int) (0:Int) ([]:List UInt8) (0:Int) (7:Int) μ78)) (
 opt (HV ρ x6 x12 x13 s61 s71 o0_0 o0_1 o0_2 o0_3 o0_4 μ78) (kS ρ H98 [] [(4,0)]))) (pX jg)) (pX jg)) (pX jg)) (pX jg)) (pX jg)) (pX jg):=by kernel_rfl
theorem tr (o0_0 o0_1 o0_2 o0_3 o0_4 μ):kS ρ H98 [] [(4,0)] (k7 o0_0 o0_1 o0_2 o0_3 o0_4 μ)=
 some (ng o0_0 o0_1 o0_2 o0_3 o0_4 μ):=by kernel_rfl
theorem AK (x0 x1 x5 x6 x10 x11 x12 x13 o0_0 o0_1 o0_2 o0_3 o0_4 μ):(DV x0 x1 x5 x6 x10 x11 x12 x13 o0_0 o0_1 o0_2 o0_3 o0_4).sK ρ μ=
 cond (x10) (
 opt (di x0 (IntKind.wrap .i64 (IntKind.wrap .i64 (x1+x5)+(1:Int))) (IntKind.wrap .i64 (IntKind.wrap .i64 (IntKind.wrap .i64 (x1+x5)+(1:Int))+x11))) fun s50=>
 opt (zm ρ x0 x1 x5 x6 x12 x13 s50 o0_0 o0_1 o0_2 o0_3 o0_4 μ) (kS ρ H98 [] [(4,0)])) (
 opt (zm ρ x0 x1 x5 x6 x12 x13 ([]:List UInt8) o0_0 o0_1 o0_2 o0_3 o0_4 μ) (kS ρ H98 [] [(4,0)])):=by kernel_rfl
theorem tq (o0_0 o0_1 o0_2 o0_3 o0_4 μ):kS ρ H98 [] [(4,0)] (ng o0_0 o0_1 o0_2 o0_3 o0_4 μ)=
 some (jf o0_0 o0_1 o0_2 o0_3 o0_4 μ):=by kernel_rfl
theorem Ml (x0 x1 x5 x6 x10 x11 x12 x13 x14 o0_0 o0_1 o0_2 o0_3 o0_4 μ):(DT x0 x1 x5 x6 x10 x11 x12 x13 x14 o0_0 o0_1 o0_2 o0_3 o0_4).sK ρ μ=
 cond (!x10) (
 cond (!x14) (
 cond (decide ((10 : Int) < x5)) (
 some (jf (0:Int) (0:Int) ([]:List UInt8) (0:Int) (28:Int) μ)) (
 opt (HU ρ x0 x1 x5 x6 o0_0 o0_1 o0_2 o0_3 o0_4 μ) (kS ρ H98 [.seq (cA 98 [1,1,1,1,1,1,1,1,1,1,1])] [(4,0)]))) (
 opt (u3 ρ x0 x1 x5 x6 x10 x11 x12 x13 o0_0 o0_1 o0_2 o0_3 o0_4 μ) (kS ρ H98 [] [(4,0)]))) (
 opt (u3 ρ x0 x1 x5 x6 x10 x11 x12 x13 o0_0 o0_1 o0_2 o0_3 o0_4 μ) (kS ρ H98 [] [(4,0)])):=by kernel_rfl
theorem tl (o0_0 o0_1 o0_2 o0_3 o0_4 μ):kS ρ H98 [] [(4,0)] (jf o0_0 o0_1 o0_2 o0_3 o0_4 μ)=
 some (fQ o0_0 o0_1 o0_2 o0_3 o0_4 μ):=by kernel_rfl
theorem tj (x0 x1 x5 x6 x10 x11 x12 x13 x14 o0_0 o0_1 o0_2 o0_3 o0_4 μ):kS ρ H98 [.seq (cA 98 [1,1,1,1,1,1,1,1,1,1])] [(4,0)] (kX x0 x1 x5 x6 x10 x11 x12 x13 x14 o0_0 o0_1 o0_2 o0_3 o0_4 μ)=
 opt (oc ρ x0 x1 x5 x6 x10 x11 x12 x13 x14 o0_0 o0_1 o0_2 o0_3 o0_4 μ) (kS ρ H98 [] [(4,0)]):=by kernel_rfl
theorem Mh (x0 x1 x5 x6 x7 x10 x11 o0_0 o0_1 o0_2 o0_3 o0_4 μ):(DP x0 x1 x5 x6 x7 x10 x11 o0_0 o0_1 o0_2 o0_3 o0_4).sK ρ μ=
 cond (!x7) (
 cond (decide (x6 < (List.length x0 : Int))) (
 opt (bo x0 x6) fun y24=>
 cond (decide ((y24.toNat : Int) = (69 : Int))) (
 cond (decide (IntKind.wrap .i64 (x6 + (1 : Int)) < (List.length x0 : Int))) (
 opt (bo x0 (IntKind.wrap .i64 (x6+(1:Int)))) fun y25=>
 cond (decide ((y25.toNat : Int) = (43 : Int))) (
 opt (da ρ x0 x1 x5 x6 x10 x11 (1:Int) (0:Int) false (IntKind.wrap .i64 (IntKind.wrap .i64 (x6+(1:Int))+(1:Int))) o0_0 o0_1 o0_2 o0_3 o0_4 μ) (kS ρ H98 [.seq (cA 98 [1,1,1,1,1,1,1,1,1,1])] [(4,0)])) (
 opt (bo x0 (IntKind.wrap .i64 (x6+(1:Int)))) fun y99=>
 cond (decide ((y99.toNat : Int) = (45 : Int))) (
 opt (da ρ x0 x1 x5 x6 x10 x11 (1:Int) (0:Int) false (IntKind.wrap .i64 (IntKind.wrap .i64 (x6+(1:Int))+(1:Int))) o0_0 o0_1 o0_2 o0_3 o0_4 μ) (kS ρ H98 [.seq (cA 98 [1,1,1,1,1,1,1,1,1,1])] [(4,0)])) (
 opt (da ρ x0 x1 x5 x6 x10 x11 (1:Int) (0:Int) false (IntKind.wrap .i64 (x6+(1:Int))) o0_0 o0_1 o0_2 o0_3 o0_4 μ) (kS ρ H98 [.seq (cA 98 [1,1,1,1,1,1,1,1,1,1])] [(4,0)])))) (
 opt (da ρ x0 x1 x5 x6 x10 x11 (1:Int) (0:Int) false (IntKind.wrap .i64 (x6+(1:Int))) o0_0 o0_1 o0_2 o0_3 o0_4 μ) (kS ρ H98 [.seq (cA 98 [1,1,1,1,1,1,1,1,1,1])] [(4,0)]))) (
 opt (bo x0 x6) fun y103=>
 cond (decide ((y103.toNat : Int) = (101 : Int))) (
 cond (decide (IntKind.wrap .i64 (x6 + (1 : Int)) < (List.length x0 : Int))) (
 opt (bo x0 (IntKind.wrap .i64 (x6+(1:Int)))) fun y104=>
 cond (decide ((y104.toNat : Int) = (43 : Int))) (
 opt (da ρ x0 x1 x5 x6 x10 x11 (1:Int) (0:Int) false (IntKind.wrap .i64 (IntKind.wrap .i64 (x6+(1:Int))+(1:Int))) o0_0 o0_1 o0_2 o0_3 o0_4 μ) (kS ρ H98 [.seq (cA 98 [1,1,1,1,1,1,1,1,1,1])] [(4,0)])) (
 opt (bo x0 (IntKind.wrap .i64 (x6+(1:Int)))) fun y106=>
 cond (decide ((y106.toNat : Int) = (45 : Int))) (
 opt (da ρ x0 x1 x5 x6 x10 x11 (1:Int) (0:Int) false (IntKind.wrap .i64 (IntKind.wrap .i64 (x6+(1:Int))+(1:Int))) o0_0 o0_1 o0_2 o0_3 o0_4 μ) (kS ρ H98 [.seq (cA 98 [1,1,1,1,1,1,1,1,1,1])] [(4,0)])) (
 opt (da ρ x0 x1 x5 x6 x10 x11 (1:Int) (0:Int) false (IntKind.wrap .i64 (x6+(1:Int))) o0_0 o0_1 o0_2 o0_3 o0_4 μ) (kS ρ H98 [.seq (cA 98 [1,1,1,1,1,1,1,1,1,1])] [(4,0)])))) (
 opt (da ρ x0 x1 x5 x6 x10 x11 (1:Int) (0:Int) false (IntKind.wrap .i64 (x6+(1:Int))) o0_0 o0_1 o0_2 o0_3 o0_4 μ) (kS ρ H98 [.seq (cA 98 [1,1,1,1,1,1,1,1,1,1])] [(4,0)]))) (
 opt (bo x0 x6) fun y110=>
 cond (decide ((y110.toNat : Int) = (68 : Int))) (
 cond (decide (IntKind.wrap .i64 (x6 + (1 : Int)) < (List.length x0 : Int))) (
 opt (bo x0 (IntKind.wrap .i64 (x6+(1:Int)))) fun y111=>
 cond (decide ((y111.toNat : Int) = (43 : Int))) (
 opt (da ρ x0 x1 x5 x6 x10 x11 (1:Int) (0:Int) false (IntKind.wrap .i64 (IntKind.wrap .i64 (x6+(1:Int))+(1:Int))) o0_0 o0_1 o0_2 o0_3 o0_4 μ) (kS ρ H98 [.seq (cA 98 [1,1,1,1,1,1,1,1,1,1])] [(4,0)])) (
 opt (bo x0 (IntKind.wrap .i64 (x6+(1:Int)))) fun y113=>
 cond (decide ((y113.toNat : Int) = (45 : Int))) (
 opt (da ρ x0 x1 x5 x6 x10 x11 (1:Int) (0:Int) false (IntKind.wrap .i64 (IntKind.wrap .i64 (x6+(1:Int))+(1:Int))) o0_0 o0_1 o0_2 o0_3 o0_4 μ) (kS ρ H98 [.seq (cA 98 [1,1,1,1,1,1,1,1,1,1])] [(4,0)])) (
 opt (da ρ x0 x1 x5 x6 x10 x11 (1:Int) (0:Int) false (IntKind.wrap .i64 (x6+(1:Int))) o0_0 o0_1 o0_2 o0_3 o0_4 μ) (kS ρ H98 [.seq (cA 98 [1,1,1,1,1,1,1,1,1,1])] [(4,0)])))) (
 opt (da ρ x0 x1 x5 x6 x10 x11 (1:Int) (0:Int) false (IntKind.wrap .i64 (x6+(1:Int))) o0_0 o0_1 o0_2 o0_3 o0_4 μ) (kS ρ H98 [.seq (cA 98 [1,1,1,1,1,1,1,1,1,1])] [(4,0)]))) (
 opt (bo x0 x6) fun y117=>
 cond (decide ((y117.toNat : Int) = (100 : Int))) (
 cond (decide (IntKind.wrap .i64 (x6 + (1 : Int)) < (List.length x0 : Int))) (
 opt (bo x0 (IntKind.wrap .i64 (x6+(1:Int)))) fun y118=>
 cond (decide ((y118.toNat : Int) = (43 : Int))) (
 opt (da ρ x0 x1 x5 x6 x10 x11 (1:Int) (0:Int) false (IntKind.wrap .i64 (IntKind.wrap .i64 (x6+(1:Int))+(1:Int))) o0_0 o0_1 o0_2 o0_3 o0_4 μ) (kS ρ H98 [.seq (cA 98 [1,1,1,1,1,1,1,1,1,1])] [(4,0)])) (
 opt (bo x0 (IntKind.wrap .i64 (x6+(1:Int)))) fun y120=>
 cond (decide ((y120.toNat : Int) = (45 : Int))) (
 opt (da ρ x0 x1 x5 x6 x10 x11 (1:Int) (0:Int) false (IntKind.wrap .i64 (IntKind.wrap .i64 (x6+(1:Int))+(1:Int))) o0_0 o0_1 o0_2 o0_3 o0_4 μ) (kS ρ H98 [.seq (cA 98 [1,1,1,1,1,1,1,1,1,1])] [(4,0)])) (
 opt (da ρ x0 x1 x5 x6 x10 x11 (1:Int) (0:Int) false (IntKind.wrap .i64 (x6+(1:Int))) o0_0 o0_1 o0_2 o0_3 o0_4 μ) (kS ρ H98 [.seq (cA 98 [1,1,1,1,1,1,1,1,1,1])] [(4,0)])))) (
 opt (da ρ x0 x1 x5 x6 x10 x11 (1:Int) (0:Int) false (IntKind.wrap .i64 (x6+(1:Int))) o0_0 o0_1 o0_2 o0_3 o0_4 μ) (kS ρ H98 [.seq (cA 98 [1,1,1,1,1,1,1,1,1,1])] [(4,0)]))) (
 opt (oc ρ x0 x1 x5 x6 x10 x11 (1:Int) (0:Int) false o0_0 o0_1 o0_2 o0_3 o0_4 μ) (kS ρ H98 [] [(4,0)])))))) (
 opt (oc ρ x0 x1 x5 x6 x10 x11 (1:Int) (0:Int) false o0_0 o0_1 o0_2 o0_3 o0_4 μ) (kS ρ H98 [] [(4,0)]))) (
 opt (oc ρ x0 x1 x5 x6 x10 x11 (1:Int) (0:Int) false o0_0 o0_1 o0_2 o0_3 o0_4 μ) (kS ρ H98 [] [(4,0)])):=by kernel_rfl
theorem ti (o0_0 o0_1 o0_2 o0_3 o0_4 μ):kB ρ 98 H98 [] (fQ o0_0 o0_1 o0_2 o0_3 o0_4 μ)=
 some (.ret (LV.cv (CV.agg [CV.int .i64 o0_0,CV.int .i64 o0_1,CV.str o0_2,CV.int .i64 o0_3,CV.int .i64 o0_4])) μ):=by kernel_rfl
theorem He (x0 x1 x5 x6 x7 o0_0 o0_1 o0_2 o0_3 o0_4 μ):kB ρ 98 H98 [.block 0,.seq (cA 98 [1,1,1,1,1])] (uz x0 x1 x5 x6 x7 o0_0 o0_1 o0_2 o0_3 o0_4 μ)=
 cond (!x7) (
 cond (decide (x6 < (List.length x0 : Int))) (
 opt (bo x0 x6) fun y18=>
 cond (decide ((y18.toNat : Int) = (46 : Int))) (
 callK (ρ.call 47 [LV.str x0, LV.int .i64 (IntKind.wrap .i64 (x6 + (1 : Int)))] μ) (fun v19 μ20 =>
 opt (aI .i64 v19) fun n23=>
 opt (oa ρ x0 x1 x5 (IntKind.wrap .i64 (IntKind.wrap .i64 (x6+(1:Int))+n23)) x7 true n23 o0_0 o0_1 o0_2 o0_3 o0_4 μ20) (kB ρ 98 H98 [])) pP) (
 opt (oa ρ x0 x1 x5 x6 x7 false (0:Int) o0_0 o0_1 o0_2 o0_3 o0_4 μ) (kB ρ 98 H98 []))) (
 opt (oa ρ x0 x1 x5 x6 x7 false (0:Int) o0_0 o0_1 o0_2 o0_3 o0_4 μ) (kB ρ 98 H98 []))) (
 opt (oa ρ x0 x1 x5 x6 x7 false (0:Int) o0_0 o0_1 o0_2 o0_3 o0_4 μ) (kB ρ 98 H98 [])):=by kernel_rfl
theorem SX (a b μ):aH E ρ 98 [LV.str a,LV.int .i64 b] μ=
 callK (ρ.call 47 [LV.str a, LV.int .i64 b] μ) (fun v1 μ2 =>
 opt (aI .i64 v1) fun n5=>
 callK (ρ.call 55 [] μ2) (fun v6 μ7 =>
 opt (fG v6) fun l10=>
 ay (gE 1 l10 [CV.str ([46, 84, 82, 85, 69, 46] : List UInt8), CV.str ([46, 70, 65, 76, 83, 69, 46] : List UInt8)]) (
 opt (u5 ρ a b n5 (IntKind.wrap .i64 (b+n5)) false (l10++[CV.str ([46,84,82,85,69,46]:List UInt8),CV.str ([46,70,65,76,83,69,46]:List UInt8)]) (List.length (l10++[CV.str ([46,84,82,85,69,46]:List UInt8),CV.str ([46,70,65,76,83,69,46]:List UInt8)]):Int) (0:Int) (0:Int) (0:Int) ([]:List UInt8) (0:Int) (0:Int) μ7) (kB ρ 98 H98 [.block 0,.seq (cA 98 [1,1,1,1,1])]))) pP) pP:=by kernel_rfl
theorem SY (a b c μ):aH E ρ 99 [LV.str a,LV.int .i64 b,LV.str c] μ=
 cond (decide (IntKind.wrap .i64 (b + (List.length c : Int)) ≤ (List.length a : Int))) (
 opt (di a b (IntKind.wrap .i64 (b+(List.length c:Int)))) fun s1=>
 callK (ρ.call 97 [LV.str s1] μ) (fun v2 μ3 =>
 opt (aN v2) fun s6=>
 some (.ret (LV.bool (decide (s6=c))) μ3)) pP) (
 some (.ret (LV.bool false) μ)):=by kernel_rfl
theorem Rm (μ):aH E ρ 100 [] μ=
 some (.ret (LV.osl [CV.agg [CV.str ([60,61]:List UInt8),CV.str ([46,76,69,46]:List UInt8)],CV.agg [CV.str ([62,61]:List UInt8),CV.str ([46,71,69,46]:List UInt8)],CV.agg [CV.str ([61,61]:List UInt8),CV.str ([46,69,81,46]:List UInt8)],CV.agg [CV.str ([47,61]:List UInt8),CV.str ([46,78,69,46]:List UInt8)],CV.agg [CV.str ([60]:List UInt8),CV.str ([46,76,84,46]:List UInt8)],CV.agg [CV.str ([62]:List UInt8),CV.str ([46,71,84,46]:List UInt8)]]) μ):=by kernel_rfl
theorem Rn (a μ):aH E ρ 114 [LV.int .u8 a] μ=
 callK (ρ.call 23 [LV.int .i64 (IntKind.wrap .i64 a), LV.int .i64 (48 : Int), LV.int .i64 (57 : Int)] μ) (fun v1 μ2 =>
 opt (aQ v1) fun b5=>
 some (.ret (LV.bool b5) μ2)) pP:=by kernel_rfl
theorem Ro (a μ):aH E ρ 117 [LV.str a] μ=
 cond (decide ((1320 : Int) < (List.length a : Int))) (
 some (.ret (LV.int .i64 (8:Int)) μ)) (
 callK (ρ.call 85 [LV.str a] μ) (fun v1 μ2 =>
 opt (aQ v1) fun b5=>
 cond (!b5) (
 some (.ret (LV.int .i64 (3:Int)) μ2)) (
 some (.ret (LV.int .i64 (0:Int)) μ2))) pP):=by kernel_rfl
def DY (x0l x0i:Nat)(x2 o0_0:Int):SegD:=⟨lz,[(0,0),(2,0),(3,0),(6,0)],cA 118 [1,1,0,0],mS [(0,LV.cv (CV.ref x0l x0i 0)),(2,LV.int .i64 x2),(3,LV.loc 0 0),(6,LV.lclo 147 [LV.loc 0 0])] [Ob.cells [LV.int .i64 o0_0]]⟩
def zo (x0l x0i:Nat)(x2 o0_0:Int)(μ:Mu):=(DY x0l x0i x2 o0_0).loop ρ μ
def Ae (x0l x0i:Nat)(x2 o0_0:Int):SegD:=⟨lz,[(0,0),(2,0),(3,0),(6,0)],cA 118 [1,1,0,0,0,0,0,0],mS [(0,LV.cv (CV.ref x0l x0i 0)),(2,LV.int .i64 x2),(3,LV.loc 0 0),(6,LV.lclo 147 [LV.loc 0 0])] [Ob.cells [LV.int .i64 o0_0]]⟩
def wM (x0l x0i:Nat)(x2 o0_0:Int)(μ:Mu):=(Ae x0l x0i x2 o0_0).loop ρ μ
def lQ (x0l x0i:Nat)(x2 o0_0:Int)(μ:Mu):St:= .exit 2 (mS [(0,LV.cv (CV.ref x0l x0i 0)),(2,LV.int .i64 x2),(3,LV.loc 0 0),(6,LV.lclo 147 [LV.loc 0 0])] [Ob.cells [LV.int .i64 o0_0]]) μ
def qQ (x2 o0_0:Int)(μ:Mu):St:= .ret (mS [(2,LV.int .i64 x2),(3,LV.loc 0 0),(6,LV.lclo 147 [LV.loc 0 0])] [Ob.cells [LV.int .i64 o0_0]]) μ
def Dv (x0l x0i:Nat)(x2 o0_0:Int):SegD:=⟨lz,[(0,0),(2,0),(3,0),(6,0)],cA 118 [1,1,0,0,0,1,1],mS [(0,LV.cv (CV.ref x0l x0i 0)),(2,LV.int .i64 x2),(3,LV.loc 0 0),(6,LV.lclo 147 [LV.loc 0 0])] [Ob.cells [LV.int .i64 o0_0]]⟩
def zg (x0l x0i:Nat)(x2 o0_0:Int)(μ:Mu):=(Dv x0l x0i x2 o0_0).seg ρ μ
def qB (x0l x0i:Nat)(x2 o0_0:Int)(μ:Mu):St:= .norm (mS [(0,LV.cv (CV.ref x0l x0i 0)),(2,LV.int .i64 x2),(3,LV.loc 0 0),(6,LV.lclo 147 [LV.loc 0 0])] [Ob.cells [LV.int .i64 o0_0]]) μ
def qC (pv:CV)(x2 o0_0:Int)(μ:Mu):St:= .panic pv (mS [(2,LV.int .i64 x2),(3,LV.loc 0 0),(6,LV.lclo 147 [LV.loc 0 0])] [Ob.cells [LV.int .i64 o0_0]]) μ
def qR (pv:CV)(x2 o0_0:Int)(μ:Mu):St:= .panic pv (mS [(2,LV.int .i64 x2),(3,LV.loc 0 0),(6,LV.lclo 147 [LV.loc 0 0])] [Ob.cells [LV.int .i64 o0_0]]) μ
theorem ya (x0l x0i x2 o0_0 μ):(Ae x0l x0i x2 o0_0).rK ρ μ=
 opt (bH E.P 9 (bb μ x0l x0i) 0) fun v1=>
 opt (aN v1) fun s2=>
 cond (decide (x2 < (List.length s2 : Int))) (
 opt (bH E.P 9 (bb μ x0l x0i) 0) fun v3=>
 opt (aN v3) fun s4=>
 opt (bo s4 x2) fun y5=>
 cond (decide ((y5.toNat : Int) = (32 : Int))) (
 wM ρ x0l x0i (IntKind.wrap .i64 (x2+(1:Int))) o0_0 μ) (
 some (lQ x0l x0i x2 o0_0 μ))) (
 some (lQ x0l x0i x2 o0_0 μ)):=by kernel_rfl
theorem AJ (x0l x0i x2 o0_0 μ):(Dv x0l x0i x2 o0_0).sK ρ μ=
 callK (ρ.call 148 [LV.cv (CV.ref x0l x0i 0), LV.int .i64 x2] μ) (fun v8 μ9 =>
 opt (aX v8) fun xs12=>
 opt (aB xs12) fun q13=>
 cO q13.1 fun n14 n15 s16=>
 opt (aB q13.2) fun q17=>
 opt (aI .i64 q17.1) fun n18=>
 opt (aS q17.2) fun u19=>
 opt (lp E.P 32 (bb μ9 x0l x0i) 2) fun r20=>
 opt (fG r20.1) fun l21=>
 ay (gE 3 l21 [CV.agg [CV.int .i64 n14, CV.int .i64 n15, CV.str s16]]) (
 ay (ck (x0l + 1) (l21 ++ [CV.agg [CV.int .i64 n14, CV.int .i64 n15, CV.str s16]])) (
 opt (bP E.P 32 (bb (ci μ9 x0l x0i r20.2) x0l x0i) 2 (LV.osl (l21++[CV.agg [CV.int .i64 n14,CV.int .i64 n15,CV.str s16]]))) fun o22=>
 some (qB x0l x0i n18 o0_0 (ci (ci μ9 x0l x0i r20.2) x0l x0i o22))))) (fun v11 μ10=>
 some (qC v11 x2 o0_0 μ10)):=by kernel_rfl
theorem Cj (x0l x0i x2 o0_0 μ):kR ρ lz [.block 1] [(0,0),(2,0),(3,0),(6,0)] (cA 118 [1,1,0,0]) (qB x0l x0i x2 o0_0 μ)=
 zo ρ x0l x0i x2 o0_0 μ:=by kernel_rfl
theorem Ck (pv x2 o0_0 μ):kR ρ lz [.block 1] [(0,0),(2,0),(3,0),(6,0)] (cA 118 [1,1,0,0]) (qC pv x2 o0_0 μ)=
 some (qR pv x2 o0_0 μ):=by kernel_rfl
theorem A2 (x0l x0i x2 o0_0 μ):kR ρ lz [.block 2,.seq (cA 118 [1,1,0,0,0,1]),.block 1] [(0,0),(2,0),(3,0),(6,0)] (cA 118 [1,1,0,0]) (lQ x0l x0i x2 o0_0 μ)=
 opt (bH E.P 9 (bb μ x0l x0i) 0) fun v6=>
 opt (aN v6) fun s7=>
 cond (decide ((List.length s7 : Int) ≤ x2)) (
 some (qQ (0:Int) (0:Int) μ)) (
 opt (zg ρ x0l x0i x2 o0_0 μ) (kR ρ lz [.block 1] [(0,0),(2,0),(3,0),(6,0)] (cA 118 [1,1,0,0]))):=by kernel_rfl
theorem Mp (x0l x0i x2 o0_0 μ):(DY x0l x0i x2 o0_0).rK ρ μ=
 opt (wM ρ x0l x0i x2 o0_0 μ) (kR ρ lz [.block 2,.seq (cA 118 [1,1,0,0,0,1]),.block 1] [(0,0),(2,0),(3,0),(6,0)] (cA 118 [1,1,0,0])):=by kernel_rfl
theorem CJ (x2 o0_0 μ):iI E.P ρ lz [.block 0] (qQ x2 o0_0 μ) (wW E.P ρ 6 (y9 E.P 118))=
 opt (ρ.dcall 147 none [LV.cv (CV.ref (List.length μ) 0 0)] (μ++[[Ob.cells [LV.int .i64 o0_0]]])) fun μ25=>
 opt (iu μ25) fun q26=>
 opt (opt (opt (bH E.P 25 (aG q26.2 0) 0) fun v27 =>
 some [v27]) fun l28=>some (LV.int .i64 x2::l28)) fun l29=>ay (ov (eq l29)) (ay (fq (List.length q26.1) (eq l29)) (some (.ret (eq l29) q26.1))):=by kernel_rfl
theorem CK (pv x2 o0_0 μ):iI E.P ρ lz [.block 0] (qR pv x2 o0_0 μ) (wW E.P ρ 6 (y9 E.P 118))=
 opt (ρ.dcall 147 (some pv) [LV.cv (CV.ref (List.length μ) 0 0)] (μ++[[Ob.cells [LV.int .i64 o0_0]]])) fun μ30=>
 opt (iu μ30) fun q31=>
 opt (opt (opt (bH E.P 25 (aG q31.2 0) 0) fun v32 =>
 some [v32]) fun l33=>some (LV.int .i64 x2::l33)) fun l34=>ay (ov (eq l34)) (ay (fq (List.length q31.1) (eq l34)) (some (.ret (eq l34) q31.1))):=by kernel_rfl
theorem Rp (al ai μ):aH E ρ 118 [LV.cv (CV.ref al ai 0)] μ=
 opt (zo ρ al ai (0:Int) (0:Int) μ) fun st35=>iI E.P ρ lz [.block 0] st35 (wW E.P ρ 6 (y9 E.P 118)):=by kernel_rfl
def DZ (x0:List UInt8)(x3 x4:Int):SegD:=⟨Fa,[(3,0)],cA 120 [1,1,0,1,0,0],mS [(0,LV.str x0),(3,LV.int .i64 x3),(4,LV.int .i64 x4)] []⟩
def zp (x0:List UInt8)(x3 x4:Int)(μ:Mu):=(DZ x0 x3 x4).loop ρ μ
def qS (x3:Int)(μ:Mu):St:= .exit 0 (mS [(3,LV.int .i64 x3)] []) μ
theorem AL (x0 x3 x4 μ):(DZ x0 x3 x4).rK ρ μ=
 cond (decide (x4 < (List.length x0 : Int))) (
 opt (bo x0 x4) fun y1=>
 zp ρ x0 (IntKind.wrap .i64 (IntKind.wrap .i64 ((10:Int)*x3)+IntKind.wrap .i64 (IntKind.wrap .u8 ((y1.toNat:Int) -(48:Int))))) (IntKind.wrap .i64 (x4+(1:Int))) μ) (
 some (qS x3 μ)):=by kernel_rfl
theorem CM (x3 μ):kB ρ 120 Fa [.block 0,.seq (cA 120 [1,1,1])] (qS x3 μ)=
 some (.ret (LV.int .i64 x3) μ):=by kernel_rfl
theorem Rq (a μ):aH E ρ 120 [LV.str a] μ=
 opt (zp ρ a (0:Int) (0:Int) μ) (kB ρ 120 Fa [.block 0,.seq (cA 120 [1,1,1])]):=by kernel_rfl
theorem Rr (a μ):aH E ρ 132 [LV.int .u8 a] μ=
 cond (decide ((48 : Int) ≤ a)) (
 some (.ret (LV.bool (decide (a≤(57:Int)))) μ)) (
 some (.ret (LV.bool false) μ)):=by kernel_rfl
theorem Rs (a μ):aH E ρ 133 [LV.int .u8 a] μ=
 callK (ρ.call 23 [LV.int .i64 (IntKind.wrap .i64 (IntKind.wrap .u8 ((BitVec.ofInt (IntKind.bits .u8) a ||| BitVec.ofInt (IntKind.bits .u8) (32 : Int)).toNat : Int))), LV.int .i64 (97 : Int), LV.int .i64 (122 : Int)] μ) (fun v1 μ2 =>
 opt (aQ v1) fun b5=>
 some (.ret (LV.bool b5) μ2)) pP:=by kernel_rfl
def D0 (x0:List UInt8):SegD:=⟨Fb,[(0,0)],cA 134 [1,0,0,0],mS [(0,LV.str x0)] []⟩
def zq (x0:List UInt8)(μ:Mu):=(D0 x0).loop ρ μ
def nh (x0:List UInt8)(μ:Mu):St:= .exit 0 (mS [(0,LV.str x0)] []) μ
theorem uM (x0 μ):(D0 x0).rK ρ μ=
 cond (decide ((1 : Int) < (List.length x0 : Int))) (
 opt (bo x0 (IntKind.wrap .i64 ((List.length x0:Int) -(1:Int)))) fun y1=>
 cond (decide ((y1.toNat : Int) = (48 : Int))) (
 opt (di x0 (0:Int) (IntKind.wrap .i64 ((List.length x0:Int) -(1:Int)))) fun s2=>
 zq ρ s2 μ) (
 some (nh x0 μ))) (
 some (nh x0 μ)):=by kernel_rfl
theorem CN (x0 μ):kB ρ 134 Fb [.block 0,.seq (cA 134 [1,1])] (nh x0 μ)=
 some (.ret (LV.str x0) μ):=by kernel_rfl
theorem Rt (a μ):aH E ρ 134 [LV.str a] μ=
 opt (zq ρ a μ) (kB ρ 134 Fb [.block 0,.seq (cA 134 [1,1])]):=by kernel_rfl
theorem Ru (a μ):aH E ρ 135 [LV.str a] μ=
 cond (decide (a = ([48] : List UInt8))) (
 some (.ret (LV.int .i64 (0:Int)) μ)) (
 some (.ret (LV.int .i64 (List.length a:Int)) μ)):=by kernel_rfl
theorem Oz (al ai μ):fR E ρ 147 none [LV.cv (CV.ref al ai 0)] μ=
 some μ:=by kernel_rfl
theorem OA (e al ai μ):fR E ρ 147 (some (CV.iface 162 (CV.agg [CV.int .i64 e]))) [LV.cv (CV.ref al ai 0)] μ=
 opt (bP E.P 25 (bb μ al ai) 0 (LV.int .i64 e)) fun o1=>
 some (ci μ al ai o1):=by kernel_rfl
def Dw (x0l x0i:Nat)(x1 x6 o0_0 o0_1:Int)(o0_2:List UInt8):SegD:=⟨ez,[(4,0),(5,0)],cA 148 [1,1,1],mS [(0,LV.cv (CV.ref x0l x0i 0)),(1,LV.int .i64 x1),(4,LV.loc 0 0),(6,LV.int .u8 x6)] [Ob.cells [LV.int .i64 o0_0,LV.int .i64 o0_1,LV.str o0_2]]⟩
def qv (x0l x0i:Nat)(x1 x6 o0_0 o0_1:Int)(o0_2:List UInt8)(μ:Mu):=(Dw x0l x0i x1 x6 o0_0 o0_1 o0_2).seg ρ μ
def cM (x5 o0_0 o0_1:Int)(o0_2:List UInt8)(μ:Mu):St:= .ret (mS [(4,LV.loc 0 0),(5,LV.int .i64 x5)] [Ob.cells [LV.int .i64 o0_0,LV.int .i64 o0_1,LV.str o0_2]]) μ
def bD (pv:CV)(μ:Mu):St:= .panic pv (mS [] []) μ
def zX (x14:List UInt8)(x15 o0_0 o0_1:Int)(o0_2:List UInt8):SegD:=⟨ez,[(0,0),(1,0),(4,0)],cA 148 [1,1,1,1,0,0,1,1,1,1,1,0,1,1],mS [(4,LV.loc 0 0),(14,LV.str x14),(15,LV.int .i64 x15)] [Ob.cells [LV.int .i64 o0_0,LV.int .i64 o0_1,LV.str o0_2]]⟩
def ja (x14:List UInt8)(x15 o0_0 o0_1:Int)(o0_2:List UInt8)(μ:Mu):=(zX x14 x15 o0_0 o0_1 o0_2).seg ρ μ
def jy (x5 o0_0 o0_1:Int)(o0_2:List UInt8)(μ:Mu):St:= .ret (mS [(4,LV.loc 0 0),(5,LV.int .i64 x5)] [Ob.cells [LV.int .i64 o0_0,LV.int .i64 o0_1,LV.str o0_2]]) μ
def zY (x0l x0i:Nat)(x1 o0_0 o0_1:Int)(o0_2:List UInt8):SegD:=⟨ez,[(4,0),(5,0)],cA 148 [1,1,1,1,1],mS [(0,LV.cv (CV.ref x0l x0i 0)),(1,LV.int .i64 x1),(4,LV.loc 0 0)] [Ob.cells [LV.int .i64 o0_0,LV.int .i64 o0_1,LV.str o0_2]]⟩
def nX (x0l x0i:Nat)(x1 o0_0 o0_1:Int)(o0_2:List UInt8)(μ:Mu):=(zY x0l x0i x1 o0_0 o0_1 o0_2).seg ρ μ
def o4 (x5 o0_0 o0_1:Int)(o0_2:List UInt8)(μ:Mu):St:= .ret (mS [(4,LV.loc 0 0),(5,LV.int .i64 x5)] [Ob.cells [LV.int .i64 o0_0,LV.int .i64 o0_1,LV.str o0_2]]) μ
def o5 (pv:CV)(μ:Mu):St:= .panic pv (mS [] []) μ
theorem JV (x14 x15 o0_0 o0_1 o0_2 μ):(zX x14 x15 o0_0 o0_1 o0_2).sK ρ μ=
 cond (decide (x14 = ([46, 84, 82, 85, 69, 46] : List UInt8))) (
 some (jy x15 (1:Int) (5:Int) x14 μ)) (
 cond (decide (x14 = ([46, 70, 65, 76, 83, 69, 46] : List UInt8))) (
 some (jy x15 (1:Int) (5:Int) x14 μ)) (
 some (jy x15 (2:Int) (0:Int) x14 μ))):=by kernel_rfl
theorem AS (x5 o0_0 o0_1 o0_2 μ):kS ρ ez [.block 0,.seq (cA 148 [1,1,1,1,1])] [(4,0),(5,0)] (jy x5 o0_0 o0_1 o0_2 μ)=
 some (cM x5 o0_0 o0_1 o0_2 μ):=by kernel_rfl
theorem JW (x0l x0i x1 o0_0 o0_1 o0_2 μ):(zY x0l x0i x1 o0_0 o0_1 o0_2).sK ρ μ=
 callK (ρ.call 174 [LV.cv (CV.ref x0l x0i 0), LV.int .i64 x1] μ) (fun v147 μ148 =>
 opt (aX v147) fun xs151=>
 opt (aB xs151) fun q152=>
 cO q152.1 fun n153 n154 s155=>
 opt (aB q152.2) fun q156=>
 opt (aI .i64 q156.1) fun n157=>
 opt (aS q156.2) fun u158=>
 some (o4 n157 n153 n154 s155 μ148)) (pX o5):=by kernel_rfl
theorem AT (x5 o0_0 o0_1 o0_2 μ):kS ρ ez [] [(4,0),(5,0)] (o4 x5 o0_0 o0_1 o0_2 μ)=
 some (cM x5 o0_0 o0_1 o0_2 μ):=by kernel_rfl
theorem AU (pv μ):kS ρ ez [] [(4,0),(5,0)] (o5 pv μ)=
 some (bD pv μ):=by kernel_rfl
theorem LU (x0l x0i x1 x6 o0_0 o0_1 o0_2 μ):(Dw x0l x0i x1 x6 o0_0 o0_1 o0_2).sK ρ μ=
 callK (ρ.call 168 [LV.cv (CV.ref x0l x0i 0), LV.int .i64 (IntKind.wrap .i64 (x1 + (1 : Int)))] μ) (fun v28 μ29 =>
 opt (aX v28) fun xs32=>
 opt (aB xs32) fun q33=>
 opt (aI .u8 q33.1) fun n34=>
 opt (aB q33.2) fun q35=>
 opt (aI .i64 q35.1) fun n36=>
 opt (aS q35.2) fun u37=>
 callK (ρ.call 90 [LV.int .u8 x6] μ29) (fun v38 μ39 =>
 opt (aQ v38) fun b42=>
 cond (b42) (
 callK (ρ.call 169 [LV.cv (CV.ref x0l x0i 0), LV.int .i64 x1, LV.cv (CV.clo 93 [])] μ39) (fun v43 μ44 =>
 opt (aX v43) fun xs47=>
 opt (aB xs47) fun q48=>
 opt (aN q48.1) fun s49=>
 opt (aB q48.2) fun q50=>
 opt (aI .i64 q50.1) fun n51=>
 opt (aS q50.2) fun u52=>
 cond (decide ((31 : Int) < (List.length s49 : Int))) (
 callK (ρ.call 170 [LV.int .i64 (4 : Int)] μ44) (fun v53 μ54 =>
 opt (aX v53) fun xs57=>
 opt (aS xs57) fun u58=>
 callK (ρ.call 91 [LV.str s49] μ54) (fun v59 μ60 =>
 opt (aN v59) fun s63=>
 some (cM n51 (0:Int) (0:Int) s63 μ60)) (pX bD)) (pX bD)) (
 callK (ρ.call 91 [LV.str s49] μ44) (fun v64 μ65 =>
 opt (aN v64) fun s68=>
 some (cM n51 (0:Int) (0:Int) s68 μ65)) (pX bD))) (pX bD)) (
 callK (ρ.call 132 [LV.int .u8 x6] μ39) (fun v69 μ70 =>
 opt (aQ v69) fun b73=>
 cond (b73) (
 callK (ρ.call 171 [LV.cv (CV.ref x0l x0i 0), LV.int .i64 x1] μ70) (fun v74 μ75 =>
 opt (aX v74) fun xs78=>
 opt (aB xs78) fun q79=>
 cO q79.1 fun n80 n81 s82=>
 opt (aB q79.2) fun q83=>
 opt (aI .i64 q83.1) fun n84=>
 opt (aS q83.2) fun u85=>
 some (cM n84 n80 n81 s82 μ75)) (pX bD)) (
 cond (decide (x6 = (46 : Int))) (
 callK (ρ.call 132 [LV.int .u8 n34] μ70) (fun v86 μ87 =>
 opt (aQ v86) fun b90=>
 cond (b90) (
 callK (ρ.call 171 [LV.cv (CV.ref x0l x0i 0), LV.int .i64 x1] μ87) (fun v91 μ92 =>
 opt (aX v91) fun xs95=>
 opt (aB xs95) fun q96=>
 cO q96.1 fun n97 n98 s99=>
 opt (aB q96.2) fun q100=>
 opt (aI .i64 q100.1) fun n101=>
 opt (aS q100.2) fun u102=>
 some (cM n101 n97 n98 s99 μ92)) (pX bD)) (
 cond (decide (x6 = (46 : Int))) (
 callK (ρ.call 172 [LV.cv (CV.ref x0l x0i 0), LV.int .i64 x1] μ87) (fun v103 μ104 =>
 opt (aX v103) fun xs107=>
 opt (aB xs107) fun q108=>
 opt (aN q108.1) fun s109=>
 opt (aB q108.2) fun q110=>
 opt (aI .i64 q110.1) fun n111=>
 opt (aB q110.2) fun q112=>
 opt (aQ q112.1) fun b113=>
 opt (aS q112.2) fun u114=>
 cond (!b113) (
 callK (ρ.call 170 [LV.int .i64 (7 : Int)] μ104) (fun v115 μ116 =>
 opt (aX v115) fun xs119=>
 opt (aS xs119) fun u120=>
 opt (ja ρ s109 n111 o0_0 o0_1 o0_2 μ116) (kS ρ ez [.block 0,.seq (cA 148 [1,1,1,1,1])] [(4,0),(5,0)])) (pX bD)) (
 opt (ja ρ s109 n111 o0_0 o0_1 o0_2 μ104) (kS ρ ez [.block 0,.seq (cA 148 [1,1,1,1,1])] [(4,0),(5,0)]))) (pX bD)) (
 cond (decide (x6 = (39 : Int))) (
 callK (ρ.call 173 [LV.cv (CV.ref x0l x0i 0), LV.int .i64 x1] μ87) (fun v123 μ124 =>
 opt (aX v123) fun xs127=>
 opt (aB xs127) fun q128=>
 cO q128.1 fun n129 n130 s131=>
 opt (aB q128.2) fun q132=>
 opt (aI .i64 q132.1) fun n133=>
 opt (aS q132.2) fun u134=>
 some (cM n133 n129 n130 s131 μ124)) (pX bD)) (
 cond (decide (x6 = (34 : Int))) (
 callK (ρ.call 173 [LV.cv (CV.ref x0l x0i 0), LV.int .i64 x1] μ87) (fun v135 μ136 =>
 opt (aX v135) fun xs139=>
 opt (aB xs139) fun q140=>
 cO q140.1 fun n141 n142 s143=>
 opt (aB q140.2) fun q144=>
 opt (aI .i64 q144.1) fun n145=>
 opt (aS q144.2) fun u146=>
 some (cM n145 n141 n142 s143 μ136)) (pX bD)) (
 opt (nX ρ x0l x0i x1 o0_0 o0_1 o0_2 μ87) (kS ρ ez [] [(4,0),(5,0)])))))) (pX bD)) (
 cond (decide (x6 = (46 : Int))) (
 callK (ρ.call 172 [LV.cv (CV.ref x0l x0i 0), LV.int .i64 x1] μ70) (fun v160 μ161 =>
 opt (aX v160) fun xs164=>
 opt (aB xs164) fun q165=>
 opt (aN q165.1) fun s166=>
 opt (aB q165.2) fun q167=>
 opt (aI .i64 q167.1) fun n168=>
 opt (aB q167.2) fun q169=>
 opt (aQ q169.1) fun b170=>
 opt (aS q169.2) fun u171=>
 cond (!b170) (
 callK (ρ.call 170 [LV.int .i64 (7 : Int)] μ161) (fun v172 μ173 =>
 opt (aX v172) fun xs176=>
 opt (aS xs176) fun u177=>
 opt (ja ρ s166 n168 o0_0 o0_1 o0_2 μ173) (kS ρ ez [.block 0,.seq (cA 148 [1,1,1,1,1])] [(4,0),(5,0)])) (pX bD)) (
 opt (ja ρ s166 n168 o0_0 o0_1 o0_2 μ161) (kS ρ ez [.block 0,.seq (cA 148 [1,1,1,1,1])] [(4,0),(5,0)]))) (pX bD)) (
 cond (decide (x6 = (39 : Int))) (
 callK (ρ.call 173 [LV.cv (CV.ref x0l x0i 0), LV.int .i64 x1] μ70) (fun v180 μ181 =>
 opt (aX v180) fun xs184=>
 opt (aB xs184) fun q185=>
 cO q185.1 fun n186 n187 s188=>
 opt (aB q185.2) fun q189=>
 opt (aI .i64 q189.1) fun n190=>
 opt (aS q189.2) fun u191=>
 some (cM n190 n186 n187 s188 μ181)) (pX bD)) (
 cond (decide (x6 = (34 : Int))) (
 callK (ρ.call 173 [LV.cv (CV.ref x0l x0i 0), LV.int .i64 x1] μ70) (fun v192 μ193 =>
 opt (aX v192) fun xs196=>
 opt (aB xs196) fun q197=>
 cO q197.1 fun n198 n199 s200=>
 opt (aB q197.2) fun q201=>
 opt (aI .i64 q201.1) fun n202=>
 opt (aS q201.2) fun u203=>
 some (cM n202 n198 n199 s200 μ193)) (pX bD)) (
 opt (nX ρ x0l x0i x1 o0_0 o0_1 o0_2 μ70) (kS ρ ez [] [(4,0),(5,0)]))))))) (pX bD))) (pX bD)) (pX bD):=by kernel_rfl
theorem Cl (x5 o0_0 o0_1 o0_2 μ):kB ρ 148 ez [] (cM x5 o0_0 o0_1 o0_2 μ)=
 some (.ret (LV.ltup [LV.cv (CV.agg [CV.int .i64 o0_0,CV.int .i64 o0_1,CV.str o0_2]),LV.int .i64 x5]) μ):=by kernel_rfl
theorem Cm (pv μ):kB ρ 148 ez [] (bD pv μ)=
 ay (below (List.length μ) pv) (some (.panic pv μ)):=by kernel_rfl
theorem Rv (al ai b μ):aH E ρ 148 [LV.cv (CV.ref al ai 0),LV.int .i64 b] μ=
 opt (bH E.P 9 (bb μ al ai) 0) fun v1=>
 opt (aN v1) fun s2=>
 opt (bo s2 b) fun y3=>
 callK (ρ.call 166 [LV.cv (CV.ref al ai 0)] μ) (fun v4 μ5 =>
 opt (aQ v4) fun b8=>
 cond (b8) (
 callK (ρ.call 132 [LV.int .u8 (y3.toNat : Int)] μ5) (fun v9 μ10 =>
 opt (aQ v9) fun b13=>
 cond (b13) (
 callK (ρ.call 167 [LV.cv (CV.ref al ai 0), LV.int .i64 b] μ10) (fun v14 μ15 =>
 opt (aX v14) fun xs18=>
 opt (aB xs18) fun q19=>
 cO q19.1 fun n20 n21 s22=>
 opt (aB q19.2) fun q23=>
 opt (aI .i64 q23.1) fun n24=>
 opt (aB q23.2) fun q25=>
 opt (aQ q25.1) fun b26=>
 opt (aS q25.2) fun u27=>
 cond (b26) (
 some (.ret (LV.ltup [LV.cv (CV.agg [CV.int .i64 n20,CV.int .i64 n21,CV.str s22]),LV.int .i64 n24]) μ15)) (
 opt (qv ρ al ai b (y3.toNat:Int) (0:Int) (0:Int) ([]:List UInt8) μ15) (kB ρ 148 ez []))) pP) (
 opt (qv ρ al ai b (y3.toNat:Int) (0:Int) (0:Int) ([]:List UInt8) μ10) (kB ρ 148 ez []))) pP) (
 opt (qv ρ al ai b (y3.toNat:Int) (0:Int) (0:Int) ([]:List UInt8) μ5) (kB ρ 148 ez []))) pP:=by kernel_rfl
def Dx (x0l x0i:Nat):SegD:=⟨tI,[(2,0)],cA 166 [1,1],mS [(0,LV.cv (CV.ref x0l x0i 0))] []⟩
def HJ (x0l x0i:Nat)(μ:Mu):=(Dx x0l x0i).seg ρ μ
def m8 (x2:Bool)(μ:Mu):St:= .ret (mS [(2,LV.bool x2)] []) μ
def Dy (x0l x0i:Nat):SegD:=⟨tI,[(2,0)],cA 166 [1,1,1],mS [(0,LV.cv (CV.ref x0l x0i 0))] []⟩
def HK (x0l x0i:Nat)(μ:Mu):=(Dy x0l x0i).seg ρ μ
def m9 (x2:Bool)(μ:Mu):St:= .ret (mS [(2,LV.bool x2)] []) μ
def H2 (pv:CV)(μ:Mu):St:= .panic pv (mS [] []) μ
theorem LZ (x0l x0i μ):(Dy x0l x0i).sK ρ μ=
 opt (bH E.P 32 (bb μ x0l x0i) 2) fun v5=>
 opt (cF v5) fun l6=>
 opt (bH E.P 32 (bb μ x0l x0i) 2) fun v7=>
 opt (cF v7) fun l8=>
 opt (bZ l6 (IntKind.wrap .i64 ((List.length l8:Int) -(1:Int)))) fun c9=>
 cO (LV.cv c9) fun n10 n11 s12=>
 cond (decide (n10 = (2 : Int))) (
 callK (ρ.call 50 [LV.osl [CV.str ([40] : List UInt8), CV.str ([44] : List UInt8), CV.str ([47] : List UInt8), CV.str ([61] : List UInt8)], LV.str s12] μ) (fun v13 μ14 =>
 opt (aQ v13) fun b17=>
 some (m9 b17 μ14)) (pX H2)) (
 some (m9 false μ)):=by kernel_rfl
theorem Co (x2 μ):kS ρ tI [] [(2,0)] (m9 x2 μ)=
 some (m8 x2 μ):=by kernel_rfl
theorem LW (x0l x0i μ):(Dx x0l x0i).sK ρ μ=
 opt (bH E.P 32 (bb μ x0l x0i) 2) fun v3=>
 opt (cF v3) fun l4=>
 cond (decide ((List.length l4 : Int) = (0 : Int))) (
 some (m8 true μ)) (
 opt (HK ρ x0l x0i μ) (kS ρ tI [] [(2,0)])):=by kernel_rfl
theorem Cn (x2 μ):kB ρ 166 tI [] (m8 x2 μ)=
 some (.ret (LV.bool x2) μ):=by kernel_rfl
theorem Rw (al ai μ):aH E ρ 166 [LV.cv (CV.ref al ai 0)] μ=
 opt (bH E.P 4 (bb μ al ai) 1) fun v1=>
 opt (aQ v1) fun b2=>
 cond (!b2) (
 some (.ret (LV.bool false) μ)) (
 opt (HJ ρ al ai μ) (kB ρ 166 tI [])):=by kernel_rfl
def Dz (x0l x0i:Nat)(x10 x11 o0_0 o0_1:Int)(o0_2:List UInt8):SegD:=⟨mm,[(4,0),(5,0),(6,0)],cA 167 [1,1,1,1,1],mS [(0,LV.cv (CV.ref x0l x0i 0)),(4,LV.loc 0 0),(10,LV.int .i64 x10),(11,LV.int .i64 x11)] [Ob.cells [LV.int .i64 o0_0,LV.int .i64 o0_1,LV.str o0_2]]⟩
def u0 (x0l x0i:Nat)(x10 x11 o0_0 o0_1:Int)(o0_2:List UInt8)(μ:Mu):=(Dz x0l x0i x10 x11 o0_0 o0_1 o0_2).seg ρ μ
def DA (x0l x0i:Nat)(x10 x11 o0_0 o0_1:Int)(o0_2:List UInt8):SegD:=⟨mm,[(4,0),(5,0),(6,0)],cA 167 [1,1,1,1,1,1],mS [(0,LV.cv (CV.ref x0l x0i 0)),(4,LV.loc 0 0),(10,LV.int .i64 x10),(11,LV.int .i64 x11)] [Ob.cells [LV.int .i64 o0_0,LV.int .i64 o0_1,LV.str o0_2]]⟩
def zh (x0l x0i:Nat)(x10 x11 o0_0 o0_1:Int)(o0_2:List UInt8)(μ:Mu):=(DA x0l x0i x10 x11 o0_0 o0_1 o0_2).seg ρ μ
def qF (x5:Int)(x6:Bool)(o0_0 o0_1:Int)(o0_2:List UInt8)(μ:Mu):St:= .ret (mS [(4,LV.loc 0 0),(5,LV.int .i64 x5),(6,LV.bool x6)] [Ob.cells [LV.int .i64 o0_0,LV.int .i64 o0_1,LV.str o0_2]]) μ
def xA (pv:CV)(μ:Mu):St:= .panic pv (mS [] []) μ
def qD (x5:Int)(x6:Bool)(o0_0 o0_1:Int)(o0_2:List UInt8)(μ:Mu):St:= .ret (mS [(4,LV.loc 0 0),(5,LV.int .i64 x5),(6,LV.bool x6)] [Ob.cells [LV.int .i64 o0_0,LV.int .i64 o0_1,LV.str o0_2]]) μ
def qE (pv:CV)(μ:Mu):St:= .panic pv (mS [] []) μ
theorem L1 (x0l x0i x10 x11 o0_0 o0_1 o0_2 μ):(DA x0l x0i x10 x11 o0_0 o0_1 o0_2).sK ρ μ=
 callK (ρ.call 189 [LV.cv (CV.ref x0l x0i 0), LV.int .i64 x10, LV.int .i64 (IntKind.wrap .i64 (x10 + x11))] μ) (fun v39 μ40 =>
 opt (aX v39) fun xs43=>
 opt (aS xs43) fun u44=>
 opt (bH E.P 9 (bb μ40 x0l x0i) 0) fun v45=>
 opt (aN v45) fun s46=>
 opt (di s46 x10 (IntKind.wrap .i64 (x10+x11))) fun s47=>
 callK (ρ.call 86 [LV.str s47] μ40) (fun v48 μ49 =>
 cO v48 fun n52 n53 s54=>
 some (qF (IntKind.wrap .i64 (x10+x11)) true n52 n53 s54 μ49)) (pX xA)) (pX xA):=by kernel_rfl
theorem Cr (x5 x6 o0_0 o0_1 o0_2 μ):kS ρ mm [] [(4,0),(5,0),(6,0)] (qF x5 x6 o0_0 o0_1 o0_2 μ)=
 some (qD x5 x6 o0_0 o0_1 o0_2 μ):=by kernel_rfl
theorem L0 (x0l x0i x10 x11 o0_0 o0_1 o0_2 μ):(Dz x0l x0i x10 x11 o0_0 o0_1 o0_2).sK ρ μ=
 opt (bH E.P 9 (bb μ x0l x0i) 0) fun v31=>
 opt (aN v31) fun s32=>
 cond (decide ((List.length s32 : Int) < IntKind.wrap .i64 (x10 + x11))) (
 callK (ρ.call 170 [LV.int .i64 (7 : Int)] μ) (fun v33 μ34 =>
 opt (aX v33) fun xs37=>
 opt (aS xs37) fun u38=>
 opt (zh ρ x0l x0i x10 x11 o0_0 o0_1 o0_2 μ34) (kS ρ mm [] [(4,0),(5,0),(6,0)])) (pX qE)) (
 opt (zh ρ x0l x0i x10 x11 o0_0 o0_1 o0_2 μ) (kS ρ mm [] [(4,0),(5,0),(6,0)])):=by kernel_rfl
theorem Cp (x5 x6 o0_0 o0_1 o0_2 μ):kB ρ 167 mm [] (qD x5 x6 o0_0 o0_1 o0_2 μ)=
 some (.ret (LV.ltup [LV.cv (CV.agg [CV.int .i64 o0_0,CV.int .i64 o0_1,CV.str o0_2]),LV.int .i64 x5,LV.bool x6]) μ):=by kernel_rfl
theorem Cq (pv μ):kB ρ 167 mm [] (qE pv μ)=
 ay (below (List.length μ) pv) (some (.panic pv μ)):=by kernel_rfl
theorem Rx (al ai b μ):aH E ρ 167 [LV.cv (CV.ref al ai 0),LV.int .i64 b] μ=
 callK (ρ.call 169 [LV.cv (CV.ref al ai 0), LV.int .i64 b, LV.cv (CV.clo 132 [])] μ) (fun v1 μ2 =>
 opt (aX v1) fun xs5=>
 opt (aB xs5) fun q6=>
 opt (aN q6.1) fun s7=>
 opt (aB q6.2) fun q8=>
 opt (aI .i64 q8.1) fun n9=>
 opt (aS q8.2) fun u10=>
 callK (ρ.call 168 [LV.cv (CV.ref al ai 0), LV.int .i64 n9] μ2) (fun v11 μ12 =>
 opt (aX v11) fun xs15=>
 opt (aB xs15) fun q16=>
 opt (aI .u8 q16.1) fun n17=>
 opt (aB q16.2) fun q18=>
 opt (aI .i64 q18.1) fun n19=>
 opt (aS q18.2) fun u20=>
 callK (ρ.call 45 [LV.str s7] μ12) (fun v21 μ22 =>
 opt (aX v21) fun xs25=>
 opt (aB xs25) fun q26=>
 opt (aI .i64 q26.1) fun n27=>
 opt (aB q26.2) fun q28=>
 opt (d8 q28.1) fun c29=>
 opt (aS q28.2) fun u30=>
 cond (decide ((2 : Int) < (List.length s7 : Int))) (
 some (.ret (LV.ltup [LV.cv (CV.agg [CV.int .i64 (0:Int),CV.int .i64 (0:Int),CV.str ([]:List UInt8)]),LV.int .i64 b,LV.bool false]) μ22)) (
 cond (decide (n27 < (1 : Int))) (
 some (.ret (LV.ltup [LV.cv (CV.agg [CV.int .i64 (0:Int),CV.int .i64 (0:Int),CV.str ([]:List UInt8)]),LV.int .i64 b,LV.bool false]) μ22)) (
 cond (decide ((60 : Int) < n27)) (
 some (.ret (LV.ltup [LV.cv (CV.agg [CV.int .i64 (0:Int),CV.int .i64 (0:Int),CV.str ([]:List UInt8)]),LV.int .i64 b,LV.bool false]) μ22)) (
 cond (!decide (n17 = (72 : Int))) (
 cond (!decide (n17 = (104 : Int))) (
 some (.ret (LV.ltup [LV.cv (CV.agg [CV.int .i64 (0:Int),CV.int .i64 (0:Int),CV.str ([]:List UInt8)]),LV.int .i64 b,LV.bool false]) μ22)) (
 opt (u0 ρ al ai n19 n27 (0:Int) (0:Int) ([]:List UInt8) μ22) (kB ρ 167 mm []))) (
 opt (u0 ρ al ai n19 n27 (0:Int) (0:Int) ([]:List UInt8) μ22) (kB ρ 167 mm [])))))) pP) pP) pP:=by kernel_rfl
def DB (x0l x0i:Nat)(x1:Int):SegD:=⟨Fc,[(4,0),(5,0)],cA 168 [1,1,1],mS [(0,LV.cv (CV.ref x0l x0i 0)),(1,LV.int .i64 x1)] []⟩
def HL (x0l x0i:Nat)(x1:Int)(μ:Mu):=(DB x0l x0i x1).seg ρ μ
def qG (x4 x5:Int)(μ:Mu):St:= .ret (mS [(4,LV.int .u8 x4),(5,LV.int .i64 x5)] []) μ
theorem L3 (x0l x0i x1 μ):(DB x0l x0i x1).sK ρ μ=
 opt (bH E.P 9 (bb μ x0l x0i) 0) fun v8=>
 opt (aN v8) fun s9=>
 opt (bo s9 x1) fun y10=>
 some (qG (y10.toNat:Int) (IntKind.wrap .i64 (x1+(1:Int))) μ):=by kernel_rfl
theorem Cs (x4 x5 μ):kB ρ 168 Fc [] (qG x4 x5 μ)=
 some (.ret (LV.ltup [LV.int .u8 x4,LV.int .i64 x5]) μ):=by kernel_rfl
theorem Ry (al ai b μ):aH E ρ 168 [LV.cv (CV.ref al ai 0),LV.int .i64 b] μ=
 callK (ρ.call 190 [LV.cv (CV.ref al ai 0), LV.int .i64 b] μ) (fun v1 μ2 =>
 opt (aI .i64 v1) fun n5=>
 opt (bH E.P 9 (bb μ2 al ai) 0) fun v6=>
 opt (aN v6) fun s7=>
 cond (decide ((List.length s7 : Int) ≤ n5)) (
 some (.ret (LV.ltup [LV.int .u8 (0:Int),LV.int .i64 n5]) μ2)) (
 opt (HL ρ al ai n5 μ2) (kB ρ 168 Fc []))) pP:=by kernel_rfl
def D1 (x0l x0i:Nat)(x1:Int)(x2f:FuncId)(x8:List CV):SegD:=⟨tJ,[],cA 169 [1,1,0,0],mS [(0,LV.cv (CV.ref x0l x0i 0)),(1,LV.int .i64 x1),(2,LV.cv (CV.clo x2f [])),(8,LV.osl x8)] []⟩
def zr (x0l x0i:Nat)(x1:Int)(x2f:FuncId)(x8:List CV)(μ:Mu):=(D1 x0l x0i x1 x2f x8).loop ρ μ
def ni (x6:List UInt8)(x7:Int)(μ:Mu):St:= .ret (mS [(6,LV.str x6),(7,LV.int .i64 x7)] []) μ
def DC (x0l x0i:Nat)(x2f:FuncId)(x8:List CV)(x9 x10:Int):SegD:=⟨tJ,[(0,0),(1,0),(2,0),(8,1)],cA 169 [1,1,0,0,0,1,1],mS [(0,LV.cv (CV.ref x0l x0i 0)),(2,LV.cv (CV.clo x2f [])),(8,LV.osl x8),(9,LV.int .u8 x9),(10,LV.int .i64 x10)] []⟩
def HM (x0l x0i:Nat)(x2f:FuncId)(x8:List CV)(x9 x10:Int)(μ:Mu):=(DC x0l x0i x2f x8 x9 x10).seg ρ μ
def qH (x0l x0i:Nat)(x1:Int)(x2f:FuncId)(x8:List CV)(μ:Mu):St:= .norm (mS [(0,LV.cv (CV.ref x0l x0i 0)),(1,LV.int .i64 x1),(2,LV.cv (CV.clo x2f [])),(8,LV.osl x8)] []) μ
def xD (pv:CV)(μ:Mu):St:= .panic pv (mS [] []) μ
theorem L4 (x0l x0i x2f x8 x9 x10 μ):(DC x0l x0i x2f x8 x9 x10).sK ρ μ=
 ay (gE 1 x8 [CV.int .u8 x9]) (
 some (qH x0l x0i x10 x2f (x8++[CV.int .u8 x9]) μ)):=by kernel_rfl
theorem Ct (x0l x0i x1 x2f x8 μ):kR ρ tJ [.block 1] [] (cA 169 [1,1,0,0]) (qH x0l x0i x1 x2f x8 μ)=
 zr ρ x0l x0i x1 x2f x8 μ:=by kernel_rfl
theorem AM (x0l x0i x1 x2f x8 μ):(D1 x0l x0i x1 x2f x8).rK ρ μ=
 callK (ρ.call 168 [LV.cv (CV.ref x0l x0i 0), LV.int .i64 x1] μ) (fun v1 μ2 =>
 opt (aX v1) fun xs5=>
 opt (aB xs5) fun q6=>
 opt (aI .u8 q6.1) fun n7=>
 opt (aB q6.2) fun q8=>
 opt (aI .i64 q8.1) fun n9=>
 opt (aS q8.2) fun u10=>
 cond (decide (n7 = (0 : Int))) (
 opt (bi x8) fun s11=>
 some (ni s11 x1 μ2)) (
 callK (ρ.call x2f [LV.int .u8 n7] μ2) (fun v12 μ13 =>
 opt (aQ v12) fun b16=>
 cond (!b16) (
 opt (bi x8) fun s17=>
 some (ni s17 x1 μ13)) (
 opt (HM ρ x0l x0i x2f x8 n7 n9 μ13) (kR ρ tJ [.block 1] [] (cA 169 [1,1,0,0])))) (pX xD))) (pX xD):=by kernel_rfl
theorem CO (x6 x7 μ):kB ρ 169 tJ [.block 0] (ni x6 x7 μ)=
 some (.ret (LV.ltup [LV.str x6,LV.int .i64 x7]) μ):=by kernel_rfl
theorem Rz (al ai b cf μ):aH E ρ 169 [LV.cv (CV.ref al ai 0),LV.int .i64 b,LV.cv (CV.clo cf [])] μ=
 opt (zr ρ al ai b cf [] μ) (kB ρ 169 tJ [.block 0]):=by kernel_rfl
theorem RA (a μ):aH E ρ 170 [LV.int .i64 a] μ=
 some (.panic (CV.iface 162 (CV.agg [CV.int .i64 a])) μ):=by kernel_rfl
def DD (x0l x0i:Nat)(x1:Int)(x6 x7:List UInt8)(x8:Bool)(o0_0 o0_1:Int)(o0_2:List UInt8):SegD:=⟨cT,[(4,0),(5,0)],cA 171 [1,1,1,1],mS [(0,LV.cv (CV.ref x0l x0i 0)),(1,LV.int .i64 x1),(4,LV.loc 0 0),(6,LV.str x6),(7,LV.str x7),(8,LV.bool x8)] [Ob.cells [LV.int .i64 o0_0,LV.int .i64 o0_1,LV.str o0_2]]⟩
def nZ (x0l x0i:Nat)(x1:Int)(x6 x7:List UInt8)(x8:Bool)(o0_0 o0_1:Int)(o0_2:List UInt8)(μ:Mu):=(DD x0l x0i x1 x6 x7 x8 o0_0 o0_1 o0_2).seg ρ μ
def jc (x5 o0_0 o0_1:Int)(o0_2:List UInt8)(μ:Mu):St:= .ret (mS [(4,LV.loc 0 0),(5,LV.int .i64 x5)] [Ob.cells [LV.int .i64 o0_0,LV.int .i64 o0_1,LV.str o0_2]]) μ
def gJ (pv:CV)(μ:Mu):St:= .panic pv (mS [] []) μ
def zZ (x1:Int)(x6 x7:List UInt8)(x14:Int)(x15:List UInt8)(x16:Int)(x17:Bool)(o0_0 o0_1:Int)(o0_2:List UInt8):SegD:=⟨cT,[(4,0),(5,0)],cA 171 [1,1,1,1,1,1],mS [(1,LV.int .i64 x1),(4,LV.loc 0 0),(6,LV.str x6),(7,LV.str x7),(14,LV.int .u8 x14),(15,LV.str x15),(16,LV.int .i64 x16),(17,LV.bool x17)] [Ob.cells [LV.int .i64 o0_0,LV.int .i64 o0_1,LV.str o0_2]]⟩
def wG (x1:Int)(x6 x7:List UInt8)(x14:Int)(x15:List UInt8)(x16:Int)(x17:Bool)(o0_0 o0_1:Int)(o0_2:List UInt8)(μ:Mu):=(zZ x1 x6 x7 x14 x15 x16 x17 o0_0 o0_1 o0_2).seg ρ μ
def z6 (x1:Int)(x6 x7:List UInt8)(x14:Int)(x15:List UInt8)(x17:Bool)(o0_0 o0_1:Int)(o0_2:List UInt8):SegD:=⟨cT,[(4,0),(5,0)],cA 171 [1,1,1,1,1,1,1],mS [(1,LV.int .i64 x1),(4,LV.loc 0 0),(6,LV.str x6),(7,LV.str x7),(14,LV.int .u8 x14),(15,LV.str x15),(17,LV.bool x17)] [Ob.cells [LV.int .i64 o0_0,LV.int .i64 o0_1,LV.str o0_2]]⟩
def wH (x1:Int)(x6 x7:List UInt8)(x14:Int)(x15:List UInt8)(x17:Bool)(o0_0 o0_1:Int)(o0_2:List UInt8)(μ:Mu):=(z6 x1 x6 x7 x14 x15 x17 o0_0 o0_1 o0_2).seg ρ μ
def z7 (x1:Int)(x6 x7:List UInt8)(x14:Int)(x15:List UInt8)(x17:Bool)(o0_0 o0_1:Int)(o0_2:List UInt8):SegD:=⟨cT,[(4,0),(5,0)],cA 171 [1,1,1,1,1,1,1,1],mS [(1,LV.int .i64 x1),(4,LV.loc 0 0),(6,LV.str x6),(7,LV.str x7),(14,LV.int .u8 x14),(15,LV.str x15),(17,LV.bool x17)] [Ob.cells [LV.int .i64 o0_0,LV.int .i64 o0_1,LV.str o0_2]]⟩
def nY (x1:Int)(x6 x7:List UInt8)(x14:Int)(x15:List UInt8)(x17:Bool)(o0_0 o0_1:Int)(o0_2:List UInt8)(μ:Mu):=(z7 x1 x6 x7 x14 x15 x17 o0_0 o0_1 o0_2).seg ρ μ
def z8 (x1 x14:Int)(x17:Bool)(x18 x19:List UInt8)(o0_0 o0_1:Int)(o0_2:List UInt8):SegD:=⟨cT,[(4,0),(5,0)],cA 171 [1,1,1,1,1,1,1,1,1,1,1],mS [(1,LV.int .i64 x1),(4,LV.loc 0 0),(14,LV.int .u8 x14),(17,LV.bool x17),(18,LV.str x18),(19,LV.str x19)] [Ob.cells [LV.int .i64 o0_0,LV.int .i64 o0_1,LV.str o0_2]]⟩
def wI (x1 x14:Int)(x17:Bool)(x18 x19:List UInt8)(o0_0 o0_1:Int)(o0_2:List UInt8)(μ:Mu):=(z8 x1 x14 x17 x18 x19 o0_0 o0_1 o0_2).seg ρ μ
def lN (x5 o0_0 o0_1:Int)(o0_2:List UInt8)(μ:Mu):St:= .ret (mS [(4,LV.loc 0 0),(5,LV.int .i64 x5)] [Ob.cells [LV.int .i64 o0_0,LV.int .i64 o0_1,LV.str o0_2]]) μ
def Aa (x1:Int)(x18 x19:List UInt8)(o0_0 o0_1:Int)(o0_2:List UInt8):SegD:=⟨cT,[(4,0),(5,0)],cA 171 [1,1,1,1,1,1,1,1,1,1,1,1],mS [(1,LV.int .i64 x1),(4,LV.loc 0 0),(18,LV.str x18),(19,LV.str x19)] [Ob.cells [LV.int .i64 o0_0,LV.int .i64 o0_1,LV.str o0_2]]⟩
def wJ (x1:Int)(x18 x19:List UInt8)(o0_0 o0_1:Int)(o0_2:List UInt8)(μ:Mu):=(Aa x1 x18 x19 o0_0 o0_1 o0_2).seg ρ μ
def lO (x5 o0_0 o0_1:Int)(o0_2:List UInt8)(μ:Mu):St:= .ret (mS [(4,LV.loc 0 0),(5,LV.int .i64 x5)] [Ob.cells [LV.int .i64 o0_0,LV.int .i64 o0_1,LV.str o0_2]]) μ
def o7 (x5 o0_0 o0_1:Int)(o0_2:List UInt8)(μ:Mu):St:= .ret (mS [(4,LV.loc 0 0),(5,LV.int .i64 x5)] [Ob.cells [LV.int .i64 o0_0,LV.int .i64 o0_1,LV.str o0_2]]) μ
def lM (pv:CV)(μ:Mu):St:= .panic pv (mS [] []) μ
def o6 (x5 o0_0 o0_1:Int)(o0_2:List UInt8)(μ:Mu):St:= .ret (mS [(4,LV.loc 0 0),(5,LV.int .i64 x5)] [Ob.cells [LV.int .i64 o0_0,LV.int .i64 o0_1,LV.str o0_2]]) μ
def ig (pv:CV)(μ:Mu):St:= .panic pv (mS [] []) μ
def lK (x5 o0_0 o0_1:Int)(o0_2:List UInt8)(μ:Mu):St:= .ret (mS [(4,LV.loc 0 0),(5,LV.int .i64 x5)] [Ob.cells [LV.int .i64 o0_0,LV.int .i64 o0_1,LV.str o0_2]]) μ
def lL (pv:CV)(μ:Mu):St:= .panic pv (mS [] []) μ
theorem J1 (x1 x18 x19 o0_0 o0_1 o0_2 μ):(Aa x1 x18 x19 o0_0 o0_1 o0_2).sK ρ μ=
 cond (!decide (x19 = ([48] : List UInt8))) (
 ay (bn (List.length ([69] : List UInt8) + List.length x19)) (
 ay (bn (List.length x18 + List.length (([69] : List UInt8) ++ x19))) (
 some (lO x1 (1:Int) (1:Int) (x18++(([69]:List UInt8)++x19)) μ)))) (
 some (lO x1 (1:Int) (1:Int) x18 μ)):=by kernel_rfl
theorem AY (x5 o0_0 o0_1 o0_2 μ):kS ρ cT [] [(4,0),(5,0)] (lO x5 o0_0 o0_1 o0_2 μ)=
 some (lN x5 o0_0 o0_1 o0_2 μ):=by kernel_rfl
theorem J0 (x1 x14 x17 x18 x19 o0_0 o0_1 o0_2 μ):(z8 x1 x14 x17 x18 x19 o0_0 o0_1 o0_2).sK ρ μ=
 cond (decide (x14 = (68 : Int))) (
 cond (x17) (
 ay (bn (List.length x18 + List.length ([68] : List UInt8))) (
 ay (bn (List.length (x18 ++ ([68] : List UInt8)) + List.length x19)) (
 some (lN x1 (1:Int) (2:Int) ((x18++([68]:List UInt8))++x19) μ)))) (
 opt (wJ ρ x1 x18 x19 o0_0 o0_1 o0_2 μ) (kS ρ cT [] [(4,0),(5,0)]))) (
 opt (wJ ρ x1 x18 x19 o0_0 o0_1 o0_2 μ) (kS ρ cT [] [(4,0),(5,0)])):=by kernel_rfl
theorem rE (x5 o0_0 o0_1 o0_2 μ):kS ρ cT [] [(4,0),(5,0)] (lN x5 o0_0 o0_1 o0_2 μ)=
 some (o7 x5 o0_0 o0_1 o0_2 μ):=by kernel_rfl
theorem JZ (x1 x6 x7 x14 x15 x17 o0_0 o0_1 o0_2 μ):(z7 x1 x6 x7 x14 x15 x17 o0_0 o0_1 o0_2).sK ρ μ=
 callK (ρ.call 65 [LV.str x6, LV.bool true] μ) (fun v75 μ76 =>
 opt (aN v75) fun s79=>
 ay (bn (List.length s79 + List.length ([46] : List UInt8))) (
 callK (ρ.call 65 [LV.str x7, LV.bool false] μ76) (fun v80 μ81 =>
 opt (aN v80) fun s84=>
 ay (bn (List.length (s79 ++ ([46] : List UInt8)) + List.length s84)) (
 cond (x17) (
 callK (ρ.call 45 [LV.str x15] μ81) (fun v85 μ86 =>
 opt (aX v85) fun xs89=>
 opt (aB xs89) fun q90=>
 opt (aI .i64 q90.1) fun n91=>
 opt (aB q90.2) fun q92=>
 opt (d8 q92.1) fun c93=>
 opt (aS q92.2) fun u94=>
 callK (ρ.call 66 [LV.int .i64 n91] μ86) (fun v95 μ96 =>
 opt (aN v95) fun s99=>
 opt (wI ρ x1 x14 x17 ((s79++([46]:List UInt8))++s84) s99 o0_0 o0_1 o0_2 μ96) (kS ρ cT [] [(4,0),(5,0)])) (pX lM)) (pX lM)) (
 opt (wI ρ x1 x14 x17 ((s79++([46]:List UInt8))++s84) ([48]:List UInt8) o0_0 o0_1 o0_2 μ81) (kS ρ cT [] [(4,0),(5,0)])))) (pX lM))) (pX lM):=by kernel_rfl
theorem AX (x5 o0_0 o0_1 o0_2 μ):kS ρ cT [] [(4,0),(5,0)] (o7 x5 o0_0 o0_1 o0_2 μ)=
 some (o6 x5 o0_0 o0_1 o0_2 μ):=by kernel_rfl
theorem JY (x1 x6 x7 x14 x15 x17 o0_0 o0_1 o0_2 μ):(z6 x1 x6 x7 x14 x15 x17 o0_0 o0_1 o0_2).sK ρ μ=
 callK (ρ.call 193 [LV.str x6, LV.str x7] μ) (fun v64 μ65 =>
 opt (aI .i64 v64) fun n68=>
 cond (decide ((30 : Int) < n68)) (
 callK (ρ.call 170 [LV.int .i64 (7 : Int)] μ65) (fun v69 μ70 =>
 opt (aX v69) fun xs73=>
 opt (aS xs73) fun u74=>
 opt (nY ρ x1 x6 x7 x14 x15 x17 o0_0 o0_1 o0_2 μ70) (kS ρ cT [] [(4,0),(5,0)])) (pX ig)) (
 callK (ρ.call 194 [LV.str x15, LV.str ([45] : List UInt8)] μ65) (fun v105 μ106 =>
 opt (aN v105) fun s109=>
 cond (decide ((3 : Int) < (List.length s109 : Int))) (
 cond (x17) (
 callK (ρ.call 170 [LV.int .i64 (7 : Int)] μ106) (fun v110 μ111 =>
 opt (aX v110) fun xs114=>
 opt (aS xs114) fun u115=>
 opt (nY ρ x1 x6 x7 x14 x15 x17 o0_0 o0_1 o0_2 μ111) (kS ρ cT [] [(4,0),(5,0)])) (pX ig)) (
 opt (nY ρ x1 x6 x7 x14 x15 x17 o0_0 o0_1 o0_2 μ106) (kS ρ cT [] [(4,0),(5,0)]))) (
 opt (nY ρ x1 x6 x7 x14 x15 x17 o0_0 o0_1 o0_2 μ106) (kS ρ cT [] [(4,0),(5,0)]))) (pX ig))) (pX ig):=by kernel_rfl
theorem rC (x5 o0_0 o0_1 o0_2 μ):kS ρ cT [] [(4,0),(5,0)] (o6 x5 o0_0 o0_1 o0_2 μ)=
 some (lK x5 o0_0 o0_1 o0_2 μ):=by kernel_rfl
theorem rD (pv μ):kS ρ cT [] [(4,0),(5,0)] (ig pv μ)=
 some (lL pv μ):=by kernel_rfl
theorem JX (x1 x6 x7 x14 x15 x16 x17 o0_0 o0_1 o0_2 μ):(zZ x1 x6 x7 x14 x15 x16 x17 o0_0 o0_1 o0_2).sK ρ μ=
 cond (x17) (
 opt (wH ρ x16 x6 x7 x14 x15 x17 o0_0 o0_1 o0_2 μ) (kS ρ cT [] [(4,0),(5,0)])) (
 opt (wH ρ x1 x6 x7 x14 x15 x17 o0_0 o0_1 o0_2 μ) (kS ρ cT [] [(4,0),(5,0)])):=by kernel_rfl
theorem AV (x5 o0_0 o0_1 o0_2 μ):kS ρ cT [] [(4,0),(5,0)] (lK x5 o0_0 o0_1 o0_2 μ)=
 some (jc x5 o0_0 o0_1 o0_2 μ):=by kernel_rfl
theorem AW (pv μ):kS ρ cT [] [(4,0),(5,0)] (lL pv μ)=
 some (gJ pv μ):=by kernel_rfl
theorem L5 (x0l x0i x1 x6 x7 x8 o0_0 o0_1 o0_2 μ):(DD x0l x0i x1 x6 x7 x8 o0_0 o0_1 o0_2).sK ρ μ=
 callK (ρ.call 191 [LV.cv (CV.ref x0l x0i 0), LV.int .i64 x1] μ) (fun v43 μ44 =>
 opt (aX v43) fun xs47=>
 opt (aB xs47) fun q48=>
 opt (aI .u8 q48.1) fun n49=>
 opt (aB q48.2) fun q50=>
 opt (aN q50.1) fun s51=>
 opt (aB q50.2) fun q52=>
 opt (aI .i64 q52.1) fun n53=>
 opt (aB q52.2) fun q54=>
 opt (aQ q54.1) fun b55=>
 opt (aS q54.2) fun u56=>
 cond (!x8) (
 cond (!b55) (
 callK (ρ.call 192 [LV.str x6] μ44) (fun v57 μ58 =>
 cO v57 fun n61 n62 s63=>
 some (jc x1 n61 n62 s63 μ58)) (pX gJ)) (
 opt (wG ρ x1 x6 x7 n49 s51 n53 b55 o0_0 o0_1 o0_2 μ44) (kS ρ cT [] [(4,0),(5,0)]))) (
 opt (wG ρ x1 x6 x7 n49 s51 n53 b55 o0_0 o0_1 o0_2 μ44) (kS ρ cT [] [(4,0),(5,0)]))) (pX gJ):=by kernel_rfl
theorem Cu (x5 o0_0 o0_1 o0_2 μ):kB ρ 171 cT [] (jc x5 o0_0 o0_1 o0_2 μ)=
 some (.ret (LV.ltup [LV.cv (CV.agg [CV.int .i64 o0_0,CV.int .i64 o0_1,CV.str o0_2]),LV.int .i64 x5]) μ):=by kernel_rfl
theorem Cv (pv μ):kB ρ 171 cT [] (gJ pv μ)=
 ay (below (List.length μ) pv) (some (.panic pv μ)):=by kernel_rfl
theorem RB (al ai b μ):aH E ρ 171 [LV.cv (CV.ref al ai 0),LV.int .i64 b] μ=
 callK (ρ.call 169 [LV.cv (CV.ref al ai 0), LV.int .i64 b, LV.cv (CV.clo 132 [])] μ) (fun v1 μ2 =>
 opt (aX v1) fun xs5=>
 opt (aB xs5) fun q6=>
 opt (aN q6.1) fun s7=>
 opt (aB q6.2) fun q8=>
 opt (aI .i64 q8.1) fun n9=>
 opt (aS q8.2) fun u10=>
 callK (ρ.call 168 [LV.cv (CV.ref al ai 0), LV.int .i64 n9] μ2) (fun v11 μ12 =>
 opt (aX v11) fun xs15=>
 opt (aB xs15) fun q16=>
 opt (aI .u8 q16.1) fun n17=>
 opt (aB q16.2) fun q18=>
 opt (aI .i64 q18.1) fun n19=>
 opt (aS q18.2) fun u20=>
 cond (decide (n17 = (46 : Int))) (
 callK (ρ.call 172 [LV.cv (CV.ref al ai 0), LV.int .i64 n9] μ12) (fun v21 μ22 =>
 opt (aX v21) fun xs25=>
 opt (aB xs25) fun q26=>
 opt (aN q26.1) fun s27=>
 opt (aB q26.2) fun q28=>
 opt (aI .i64 q28.1) fun n29=>
 opt (aB q28.2) fun q30=>
 opt (aQ q30.1) fun b31=>
 opt (aS q30.2) fun u32=>
 cond (!b31) (
 callK (ρ.call 169 [LV.cv (CV.ref al ai 0), LV.int .i64 n19, LV.cv (CV.clo 132 [])] μ22) (fun v33 μ34 =>
 opt (aX v33) fun xs37=>
 opt (aB xs37) fun q38=>
 opt (aN q38.1) fun s39=>
 opt (aB q38.2) fun q40=>
 opt (aI .i64 q40.1) fun n41=>
 opt (aS q40.2) fun u42=>
 opt (nZ ρ al ai n41 s7 s39 true (0:Int) (0:Int) ([]:List UInt8) μ34) (kB ρ 171 cT [])) pP) (
 cond (decide (s7 = ([] : List UInt8))) (
 callK (ρ.call 169 [LV.cv (CV.ref al ai 0), LV.int .i64 n19, LV.cv (CV.clo 132 [])] μ22) (fun v124 μ125 =>
 opt (aX v124) fun xs128=>
 opt (aB xs128) fun q129=>
 opt (aN q129.1) fun s130=>
 opt (aB q129.2) fun q131=>
 opt (aI .i64 q131.1) fun n132=>
 opt (aS q131.2) fun u133=>
 opt (nZ ρ al ai n132 s7 s130 true (0:Int) (0:Int) ([]:List UInt8) μ125) (kB ρ 171 cT [])) pP) (
 opt (nZ ρ al ai n9 s7 ([]:List UInt8) false (0:Int) (0:Int) ([]:List UInt8) μ22) (kB ρ 171 cT [])))) pP) (
 opt (nZ ρ al ai n9 s7 ([]:List UInt8) false (0:Int) (0:Int) ([]:List UInt8) μ12) (kB ρ 171 cT []))) pP) pP:=by kernel_rfl
def DE (x0l x0i:Nat)(x8:Int):SegD:=⟨Fd,[(4,0),(5,0),(6,0)],cA 172 [1,1,1],mS [(0,LV.cv (CV.ref x0l x0i 0)),(8,LV.int .i64 x8)] []⟩
def HN (x0l x0i:Nat)(x8:Int)(μ:Mu):=(DE x0l x0i x8).seg ρ μ
def fP (x4:List UInt8)(x5:Int)(x6:Bool)(μ:Mu):St:= .ret (mS [(4,LV.str x4),(5,LV.int .i64 x5),(6,LV.bool x6)] []) μ
def kU (pv:CV)(μ:Mu):St:= .panic pv (mS [] []) μ
theorem L6 (x0l x0i x8 μ):(DE x0l x0i x8).sK ρ μ=
 callK (ρ.call 169 [LV.cv (CV.ref x0l x0i 0), LV.int .i64 x8, LV.cv (CV.clo 90 [])] μ) (fun v11 μ12 =>
 opt (aX v11) fun xs15=>
 opt (aB xs15) fun q16=>
 opt (aN q16.1) fun s17=>
 opt (aB q16.2) fun q18=>
 opt (aI .i64 q18.1) fun n19=>
 opt (aS q18.2) fun u20=>
 callK (ρ.call 168 [LV.cv (CV.ref x0l x0i 0), LV.int .i64 n19] μ12) (fun v21 μ22 =>
 opt (aX v21) fun xs25=>
 opt (aB xs25) fun q26=>
 opt (aI .u8 q26.1) fun n27=>
 opt (aB q26.2) fun q28=>
 opt (aI .i64 q28.1) fun n29=>
 opt (aS q28.2) fun u30=>
 callK (ρ.call 91 [LV.str s17] μ22) (fun v31 μ32 =>
 opt (aN v31) fun s35=>
 ay (bn (List.length ([46] : List UInt8) + List.length s35)) (
 ay (bn (List.length (([46] : List UInt8) ++ s35) + List.length ([46] : List UInt8))) (
 callK (ρ.call 51 [] μ32) (fun v36 μ37 =>
 opt (cF v36) fun l40=>
 callK (ρ.call 50 [LV.cv (CV.sl l40), LV.str ((([46] : List UInt8) ++ s35) ++ ([46] : List UInt8))] μ37) (fun v41 μ42 =>
 opt (aQ v41) fun b45=>
 cond (b45) (
 cond (decide (n27 = (46 : Int))) (
 some (fP ((([46]:List UInt8)++s35)++([46]:List UInt8)) n29 true μ42)) (
 some (fP ((([46]:List UInt8)++s35)++([46]:List UInt8)) n29 false μ42))) (
 cond (decide ((([46] : List UInt8) ++ s35) ++ ([46] : List UInt8) = ([46, 84, 82, 85, 69, 46] : List UInt8))) (
 cond (decide (n27 = (46 : Int))) (
 some (fP ((([46]:List UInt8)++s35)++([46]:List UInt8)) n29 true μ42)) (
 some (fP ((([46]:List UInt8)++s35)++([46]:List UInt8)) n29 false μ42))) (
 cond (decide (n27 = (46 : Int))) (
 some (fP ((([46]:List UInt8)++s35)++([46]:List UInt8)) n29 (decide ((([46]:List UInt8)++s35)++([46]:List UInt8)=([46,70,65,76,83,69,46]:List UInt8))) μ42)) (
 some (fP ((([46]:List UInt8)++s35)++([46]:List UInt8)) n29 false μ42))))) (pX kU)) (pX kU)))) (pX kU)) (pX kU)) (pX kU):=by kernel_rfl
theorem Cw (x4 x5 x6 μ):kB ρ 172 Fd [] (fP x4 x5 x6 μ)=
 some (.ret (LV.ltup [LV.str x4,LV.int .i64 x5,LV.bool x6]) μ):=by kernel_rfl
theorem RC (al ai b μ):aH E ρ 172 [LV.cv (CV.ref al ai 0),LV.int .i64 b] μ=
 callK (ρ.call 168 [LV.cv (CV.ref al ai 0), LV.int .i64 b] μ) (fun v1 μ2 =>
 opt (aX v1) fun xs5=>
 opt (aB xs5) fun q6=>
 opt (aI .u8 q6.1) fun n7=>
 opt (aB q6.2) fun q8=>
 opt (aI .i64 q8.1) fun n9=>
 opt (aS q8.2) fun u10=>
 cond (!decide (n7 = (46 : Int))) (
 some (.ret (LV.ltup [LV.str ([]:List UInt8),LV.int .i64 b,LV.bool false]) μ2)) (
 opt (HN ρ al ai n9 μ2) (kB ρ 172 Fd []))) pP:=by kernel_rfl
def D2 (x0l x0i:Nat)(x1:Int)(x6:List UInt8)(x7:Int)(x8:List UInt8)(o0_0 o0_1:Int)(o0_2:List UInt8):SegD:=⟨ju,[(0,0),(1,0),(4,0),(7,0),(8,0)],cA 173 [1,1,1,1,0,1,0,0],mS [(0,LV.cv (CV.ref x0l x0i 0)),(1,LV.int .i64 x1),(4,LV.loc 0 0),(6,LV.str x6),(7,LV.int .i64 x7),(8,LV.str x8)] [Ob.cells [LV.int .i64 o0_0,LV.int .i64 o0_1,LV.str o0_2]]⟩
def zs (x0l x0i:Nat)(x1:Int)(x6:List UInt8)(x7:Int)(x8:List UInt8)(o0_0 o0_1:Int)(o0_2:List UInt8)(μ:Mu):=(D2 x0l x0i x1 x6 x7 x8 o0_0 o0_1 o0_2).loop ρ μ
def DF (x0l x0i:Nat)(x1:Int)(x6:List UInt8)(x7:Int)(x8:List UInt8)(x9 o0_0 o0_1:Int)(o0_2:List UInt8):SegD:=⟨ju,[(0,0),(1,0),(4,0),(6,0),(7,0),(8,0)],cA 173 [1,1,1,1,0,1,0,0,0,0,1,1],mS [(0,LV.cv (CV.ref x0l x0i 0)),(1,LV.int .i64 x1),(4,LV.loc 0 0),(6,LV.str x6),(7,LV.int .i64 x7),(8,LV.str x8),(9,LV.int .i64 x9)] [Ob.cells [LV.int .i64 o0_0,LV.int .i64 o0_1,LV.str o0_2]]⟩
def zi (x0l x0i:Nat)(x1:Int)(x6:List UInt8)(x7:Int)(x8:List UInt8)(x9 o0_0 o0_1:Int)(o0_2:List UInt8)(μ:Mu):=(DF x0l x0i x1 x6 x7 x8 x9 o0_0 o0_1 o0_2).seg ρ μ
def na (x0l x0i:Nat)(x1:Int)(x6:List UInt8)(x7:Int)(x8:List UInt8)(o0_0 o0_1:Int)(o0_2:List UInt8)(μ:Mu):St:= .exit 0 (mS [(0,LV.cv (CV.ref x0l x0i 0)),(1,LV.int .i64 x1),(4,LV.loc 0 0),(6,LV.str x6),(7,LV.int .i64 x7),(8,LV.str x8)] [Ob.cells [LV.int .i64 o0_0,LV.int .i64 o0_1,LV.str o0_2]]) μ
def qI (x0l x0i:Nat)(x1:Int)(x6:List UInt8)(x7:Int)(x8:List UInt8)(o0_0 o0_1:Int)(o0_2:List UInt8)(μ:Mu):St:= .norm (mS [(0,LV.cv (CV.ref x0l x0i 0)),(1,LV.int .i64 x1),(4,LV.loc 0 0),(6,LV.str x6),(7,LV.int .i64 x7),(8,LV.str x8)] [Ob.cells [LV.int .i64 o0_0,LV.int .i64 o0_1,LV.str o0_2]]) μ
def Ia (pv:CV)(μ:Mu):St:= .panic pv (mS [] []) μ
def qT (x0l x0i:Nat)(x1 x7:Int)(x8:List UInt8)(o0_0 o0_1:Int)(o0_2:List UInt8)(μ:Mu):St:= .exit 0 (mS [(0,LV.cv (CV.ref x0l x0i 0)),(1,LV.int .i64 x1),(4,LV.loc 0 0),(7,LV.int .i64 x7),(8,LV.str x8)] [Ob.cells [LV.int .i64 o0_0,LV.int .i64 o0_1,LV.str o0_2]]) μ
def nj (pv:CV)(μ:Mu):St:= .panic pv (mS [] []) μ
def Ab (x0l x0i:Nat)(x1 x7:Int)(x8:List UInt8)(o0_0 o0_1:Int)(o0_2:List UInt8):SegD:=⟨ju,[(4,0),(5,0)],cA 173 [1,1,1,1,1,1],mS [(0,LV.cv (CV.ref x0l x0i 0)),(1,LV.int .i64 x1),(4,LV.loc 0 0),(7,LV.int .i64 x7),(8,LV.str x8)] [Ob.cells [LV.int .i64 o0_0,LV.int .i64 o0_1,LV.str o0_2]]⟩
def wK (x0l x0i:Nat)(x1 x7:Int)(x8:List UInt8)(o0_0 o0_1:Int)(o0_2:List UInt8)(μ:Mu):=(Ab x0l x0i x1 x7 x8 o0_0 o0_1 o0_2).seg ρ μ
def o8 (x5 o0_0 o0_1:Int)(o0_2:List UInt8)(μ:Mu):St:= .ret (mS [(4,LV.loc 0 0),(5,LV.int .i64 x5)] [Ob.cells [LV.int .i64 o0_0,LV.int .i64 o0_1,LV.str o0_2]]) μ
def u9 (pv:CV)(μ:Mu):St:= .panic pv (mS [] []) μ
theorem L7 (x0l x0i x1 x6 x7 x8 x9 o0_0 o0_1 o0_2 μ):(DF x0l x0i x1 x6 x7 x8 x9 o0_0 o0_1 o0_2).sK ρ μ=
 opt (bH E.P 9 (bb μ x0l x0i) 0) fun v18=>
 opt (aN v18) fun s19=>
 opt (di s19 x1 (IntKind.wrap .i64 (x1+x9))) fun s20=>
 ay (bn (List.length x8 + List.length s20)) (
 opt (bH E.P 9 (bb μ x0l x0i) 0) fun v21=>
 opt (aN v21) fun s22=>
 opt (di s22 (IntKind.wrap .i64 (x1+IntKind.wrap .i64 (x9+(1:Int)))) (List.length s22:Int)) fun s23=>
 callK (ρ.call 195 [LV.str s23, LV.str x6] μ) (fun v24 μ25 =>
 opt (aQ v24) fun b28=>
 cond (!b28) (
 some (na x0l x0i (IntKind.wrap .i64 (x1+IntKind.wrap .i64 (x9+(1:Int)))) x6 x7 (x8++s20) o0_0 o0_1 o0_2 μ25)) (
 ay (bn (List.length (x8 ++ s20) + List.length x6)) (
 some (qI x0l x0i (IntKind.wrap .i64 (x1+IntKind.wrap .i64 (x9+(1:Int)))) x6 x7 ((x8++s20)++x6) o0_0 o0_1 o0_2 μ25)))) (pX Ia)):=by kernel_rfl
theorem tc (x0l x0i x1 x6 x7 x8 o0_0 o0_1 o0_2 μ):kR ρ ju [.block 1,.seq (cA 173 [1,1,1,1,0,1,0,0,1])] [(0,0),(1,0),(4,0),(7,0),(8,0)] (cA 173 [1,1,1,1,0,1,0,0]) (na x0l x0i x1 x6 x7 x8 o0_0 o0_1 o0_2 μ)=
 some (qT x0l x0i x1 x7 x8 o0_0 o0_1 o0_2 μ):=by kernel_rfl
theorem Cx (x0l x0i x1 x6 x7 x8 o0_0 o0_1 o0_2 μ):kR ρ ju [.block 1,.seq (cA 173 [1,1,1,1,0,1,0,0,1])] [(0,0),(1,0),(4,0),(7,0),(8,0)] (cA 173 [1,1,1,1,0,1,0,0]) (qI x0l x0i x1 x6 x7 x8 o0_0 o0_1 o0_2 μ)=
 zs ρ x0l x0i (IntKind.wrap .i64 (x1+(1:Int))) x6 x7 x8 o0_0 o0_1 o0_2 μ:=by kernel_rfl
theorem AN (x0l x0i x1 x6 x7 x8 o0_0 o0_1 o0_2 μ):(D2 x0l x0i x1 x6 x7 x8 o0_0 o0_1 o0_2).rK ρ μ=
 opt (bH E.P 9 (bb μ x0l x0i) 0) fun v4=>
 opt (aN v4) fun s5=>
 opt (di s5 x1 (List.length s5:Int)) fun s6=>
 callK (ρ.call 145 [LV.str s6, LV.str x6] μ) (fun v7 μ8 =>
 opt (aI .i64 v7) fun n11=>
 cond (decide (n11 < (0 : Int))) (
 callK (ρ.call 170 [LV.int .i64 (7 : Int)] μ8) (fun v12 μ13 =>
 opt (aX v12) fun xs16=>
 opt (aS xs16) fun u17=>
 opt (zi ρ x0l x0i x1 x6 x7 x8 n11 o0_0 o0_1 o0_2 μ13) (kR ρ ju [.block 1,.seq (cA 173 [1,1,1,1,0,1,0,0,1])] [(0,0),(1,0),(4,0),(7,0),(8,0)] (cA 173 [1,1,1,1,0,1,0,0]))) (pX nj)) (
 opt (zi ρ x0l x0i x1 x6 x7 x8 n11 o0_0 o0_1 o0_2 μ8) (kR ρ ju [.block 1,.seq (cA 173 [1,1,1,1,0,1,0,0,1])] [(0,0),(1,0),(4,0),(7,0),(8,0)] (cA 173 [1,1,1,1,0,1,0,0])))) (pX nj):=by kernel_rfl
theorem J2 (x0l x0i x1 x7 x8 o0_0 o0_1 o0_2 μ):(Ab x0l x0i x1 x7 x8 o0_0 o0_1 o0_2).sK ρ μ=
 callK (ρ.call 189 [LV.cv (CV.ref x0l x0i 0), LV.int .i64 x7, LV.int .i64 x1] μ) (fun v37 μ38 =>
 opt (aX v37) fun xs41=>
 opt (aS xs41) fun u42=>
 callK (ρ.call 86 [LV.str x8] μ38) (fun v43 μ44 =>
 cO v43 fun n47 n48 s49=>
 some (o8 x1 n47 n48 s49 μ44)) (pX u9)) (pX u9):=by kernel_rfl
theorem AZ (x5 o0_0 o0_1 o0_2 μ):kB ρ 173 ju [] (o8 x5 o0_0 o0_1 o0_2 μ)=
 some (.ret (LV.ltup [LV.cv (CV.agg [CV.int .i64 o0_0,CV.int .i64 o0_1,CV.str o0_2]),LV.int .i64 x5]) μ):=by kernel_rfl
theorem CP (x0l x0i x1 x7 x8 o0_0 o0_1 o0_2 μ):kB ρ 173 ju [.block 0,.seq (cA 173 [1,1,1,1,1])] (qT x0l x0i x1 x7 x8 o0_0 o0_1 o0_2 μ)=
 cond (decide ((60 : Int) < (List.length x8 : Int))) (
 callK (ρ.call 170 [LV.int .i64 (8 : Int)] μ) (fun v31 μ32 =>
 opt (aX v31) fun xs35=>
 opt (aS xs35) fun u36=>
 opt (wK ρ x0l x0i x1 x7 x8 o0_0 o0_1 o0_2 μ32) (kB ρ 173 ju [])) pP) (
 opt (wK ρ x0l x0i x1 x7 x8 o0_0 o0_1 o0_2 μ) (kB ρ 173 ju [])):=by kernel_rfl
theorem CQ (pv μ):kB ρ 173 ju [.block 0,.seq (cA 173 [1,1,1,1,1])] (nj pv μ)=
 ay (below (List.length μ) pv) (some (.panic pv μ)):=by kernel_rfl
theorem RD (al ai b μ):aH E ρ 173 [LV.cv (CV.ref al ai 0),LV.int .i64 b] μ=
 opt (bH E.P 9 (bb μ al ai) 0) fun v1=>
 opt (aN v1) fun s2=>
 opt (di s2 b (IntKind.wrap .i64 (b+(1:Int)))) fun s3=>
 opt (zs ρ al ai (IntKind.wrap .i64 (b+(1:Int))) s3 b ([]:List UInt8) (0:Int) (0:Int) ([]:List UInt8) μ) (kB ρ 173 ju [.block 0,.seq (cA 173 [1,1,1,1,1])]):=by kernel_rfl
def DG (x6 x7 x8 x9:Int)(x10:List UInt8)(o0_0 o0_1:Int)(o0_2:List UInt8):SegD:=⟨iH,[(4,0),(5,0)],cA 174 [1,1,1,1,1],mS [(4,LV.loc 0 0),(6,LV.int .u8 x6),(7,LV.int .i64 x7),(8,LV.int .u8 x8),(9,LV.int .i64 x9),(10,LV.str x10)] [Ob.cells [LV.int .i64 o0_0,LV.int .i64 o0_1,LV.str o0_2]]⟩
def HO (x6 x7 x8 x9:Int)(x10:List UInt8)(o0_0 o0_1:Int)(o0_2:List UInt8)(μ:Mu):=(DG x6 x7 x8 x9 x10 o0_0 o0_1 o0_2).seg ρ μ
def jd (x5 o0_0 o0_1:Int)(o0_2:List UInt8)(μ:Mu):St:= .ret (mS [(4,LV.loc 0 0),(5,LV.int .i64 x5)] [Ob.cells [LV.int .i64 o0_0,LV.int .i64 o0_1,LV.str o0_2]]) μ
def DH (x6 x7 o0_0 o0_1:Int)(o0_2:List UInt8):SegD:=⟨iH,[(4,0),(5,0)],cA 174 [1,1,1,1,1,1],mS [(4,LV.loc 0 0),(6,LV.int .u8 x6),(7,LV.int .i64 x7)] [Ob.cells [LV.int .i64 o0_0,LV.int .i64 o0_1,LV.str o0_2]]⟩
def zj (x6 x7 o0_0 o0_1:Int)(o0_2:List UInt8)(μ:Mu):=(DH x6 x7 o0_0 o0_1 o0_2).seg ρ μ
def kV (x5 o0_0 o0_1:Int)(o0_2:List UInt8)(μ:Mu):St:= .ret (mS [(4,LV.loc 0 0),(5,LV.int .i64 x5)] [Ob.cells [LV.int .i64 o0_0,LV.int .i64 o0_1,LV.str o0_2]]) μ
def Ac (x7:Int)(x13:List UInt8)(o0_0 o0_1:Int)(o0_2:List UInt8):SegD:=⟨iH,[(4,0),(5,0)],cA 174 [1,1,1,1,1,1,1,1],mS [(4,LV.loc 0 0),(7,LV.int .i64 x7),(13,LV.str x13)] [Ob.cells [LV.int .i64 o0_0,LV.int .i64 o0_1,LV.str o0_2]]⟩
def Do (x7:Int)(x13:List UInt8)(o0_0 o0_1:Int)(o0_2:List UInt8)(μ:Mu):=(Ac x7 x13 o0_0 o0_1 o0_2).seg ρ μ
def lP (x5 o0_0 o0_1:Int)(o0_2:List UInt8)(μ:Mu):St:= .ret (mS [(4,LV.loc 0 0),(5,LV.int .i64 x5)] [Ob.cells [LV.int .i64 o0_0,LV.int .i64 o0_1,LV.str o0_2]]) μ
def jz (pv:CV)(μ:Mu):St:= .panic pv (mS [] []) μ
def kW (pv:CV)(μ:Mu):St:= .panic pv (mS [] []) μ
def gK (pv:CV)(μ:Mu):St:= .panic pv (mS [] []) μ
theorem J3 (x7 x13 o0_0 o0_1 o0_2 μ):(Ac x7 x13 o0_0 o0_1 o0_2).sK ρ μ=
 callK (ρ.call 52 [] μ) (fun v49 μ50 =>
 opt (cF v49) fun l53=>
 callK (ρ.call 50 [LV.cv (CV.sl l53), LV.str x13] μ50) (fun v54 μ55 =>
 opt (aQ v54) fun b58=>
 cond (!b58) (
 callK (ρ.call 170 [LV.int .i64 (7 : Int)] μ55) (fun v59 μ60 =>
 opt (aX v59) fun xs63=>
 opt (aS xs63) fun u64=>
 some (lP x7 (2:Int) (0:Int) x13 μ60)) (pX jz)) (
 some (lP x7 (2:Int) (0:Int) x13 μ55))) (pX jz)) (pX jz):=by kernel_rfl
theorem A0 (x5 o0_0 o0_1 o0_2 μ):kS ρ iH [] [(4,0),(5,0)] (lP x5 o0_0 o0_1 o0_2 μ)=
 some (kV x5 o0_0 o0_1 o0_2 μ):=by kernel_rfl
theorem A1 (pv μ):kS ρ iH [] [(4,0),(5,0)] (jz pv μ)=
 some (kW pv μ):=by kernel_rfl
theorem L9 (x6 x7 o0_0 o0_1 o0_2 μ):(DH x6 x7 o0_0 o0_1 o0_2).sK ρ μ=
 opt (bi [CV.int .u8 x6]) fun s40=>
 callK (ρ.call 196 [] μ) (fun v41 μ42 =>
 opt (d8 v41) fun c45=>
 opt (sC (LV.cv c45) {fr:=fun _=> .cv .undef,lam:=[Ob.cells [LV.int .i64 o0_0,LV.int .i64 o0_1,LV.str o0_2]],pushed:=false} μ42) fun p46=>
 ay (jK .string p46.1) (
 optE (fI p46.1 p46.2 (Value.string ⟨⟨s40⟩⟩)) (fun c47 =>
 opt (aN (LV.cv c47)) fun s48=>
 some (kV x7 (2:Int) (0:Int) s48 μ42)) (
 opt (Do ρ x7 s40 o0_0 o0_1 o0_2 μ42) (kS ρ iH [] [(4,0),(5,0)])))) (pX kW):=by kernel_rfl
theorem CA (x5 o0_0 o0_1 o0_2 μ):kS ρ iH [] [(4,0),(5,0)] (kV x5 o0_0 o0_1 o0_2 μ)=
 some (jd x5 o0_0 o0_1 o0_2 μ):=by kernel_rfl
theorem CB (pv μ):kS ρ iH [] [(4,0),(5,0)] (kW pv μ)=
 some (gK pv μ):=by kernel_rfl
theorem L8 (x6 x7 x8 x9 x10 o0_0 o0_1 o0_2 μ):(DG x6 x7 x8 x9 x10 o0_0 o0_1 o0_2).sK ρ μ=
 cond (!decide (x8 = (0 : Int))) (
 callK (ρ.call 52 [] μ) (fun v30 μ31 =>
 opt (cF v30) fun l34=>
 callK (ρ.call 50 [LV.cv (CV.sl l34), LV.str x10] μ31) (fun v35 μ36 =>
 opt (aQ v35) fun b39=>
 cond (b39) (
 some (jd x9 (2:Int) (0:Int) x10 μ36)) (
 opt (zj ρ x6 x7 o0_0 o0_1 o0_2 μ36) (kS ρ iH [] [(4,0),(5,0)]))) (pX gK)) (pX gK)) (
 opt (zj ρ x6 x7 o0_0 o0_1 o0_2 μ) (kS ρ iH [] [(4,0),(5,0)])):=by kernel_rfl
theorem Cy (x5 o0_0 o0_1 o0_2 μ):kB ρ 174 iH [] (jd x5 o0_0 o0_1 o0_2 μ)=
 some (.ret (LV.ltup [LV.cv (CV.agg [CV.int .i64 o0_0,CV.int .i64 o0_1,CV.str o0_2]),LV.int .i64 x5]) μ):=by kernel_rfl
theorem Cz (pv μ):kB ρ 174 iH [] (gK pv μ)=
 ay (below (List.length μ) pv) (some (.panic pv μ)):=by kernel_rfl
theorem RE (al ai b μ):aH E ρ 174 [LV.cv (CV.ref al ai 0),LV.int .i64 b] μ=
 callK (ρ.call 168 [LV.cv (CV.ref al ai 0), LV.int .i64 b] μ) (fun v1 μ2 =>
 opt (aX v1) fun xs5=>
 opt (aB xs5) fun q6=>
 opt (aI .u8 q6.1) fun n7=>
 opt (aB q6.2) fun q8=>
 opt (aI .i64 q8.1) fun n9=>
 opt (aS q8.2) fun u10=>
 callK (ρ.call 168 [LV.cv (CV.ref al ai 0), LV.int .i64 n9] μ2) (fun v11 μ12 =>
 opt (aX v11) fun xs15=>
 opt (aB xs15) fun q16=>
 opt (aI .u8 q16.1) fun n17=>
 opt (aB q16.2) fun q18=>
 opt (aI .i64 q18.1) fun n19=>
 opt (aS q18.2) fun u20=>
 opt (bi [CV.int .u8 n7,CV.int .u8 n17]) fun s21=>
 callK (ρ.call 196 [] μ12) (fun v22 μ23 =>
 opt (d8 v22) fun c26=>
 opt (sC (LV.cv c26) {fr:=fun _=> .cv .undef,lam:=[Ob.cells [LV.int .i64 (0:Int),LV.int .i64 (0:Int),LV.str ([]:List UInt8)]],pushed:=false} μ23) fun p27=>
 ay (jK .string p27.1) (
 optE (fI p27.1 p27.2 (Value.string ⟨⟨s21⟩⟩)) (fun c28 =>
 opt (aN (LV.cv c28)) fun s29=>
 some (.ret (LV.ltup [LV.cv (CV.agg [CV.int .i64 (2:Int),CV.int .i64 (0:Int),CV.str s29]),LV.int .i64 n19]) μ23)) (
 opt (HO ρ n7 n9 n17 n19 s21 (0:Int) (0:Int) ([]:List UInt8) μ23) (kB ρ 174 iH [])))) pP) pP) pP:=by kernel_rfl
def D3 (x0l x0i:Nat)(x2 x6:Int):SegD:=⟨Fe,[],cA 189 [1,0,0],mS [(0,LV.cv (CV.ref x0l x0i 0)),(2,LV.int .i64 x2),(6,LV.int .i64 x6)] []⟩
def zt (x0l x0i:Nat)(x2 x6:Int)(μ:Mu):=(D3 x0l x0i x2 x6).loop ρ μ
def qU (μ:Mu):St:= .exit 0 (mS [] []) μ
theorem AO (x0l x0i x2 x6 μ):(D3 x0l x0i x2 x6).rK ρ μ=
 cond (decide (x6 < x2)) (
 opt (lp E.P 38 (bb μ x0l x0i) 3) fun r1=>
 opt (fG r1.1) fun l2=>
 ay (gE 1 l2 [CV.int .i64 x6]) (
 ay (ck (x0l + 1) (l2 ++ [CV.int .i64 x6])) (
 opt (bP E.P 38 (bb (ci μ x0l x0i r1.2) x0l x0i) 3 (LV.osl (l2++[CV.int .i64 x6]))) fun o3=>
 zt ρ x0l x0i x2 (IntKind.wrap .i64 (x6+(1:Int))) (ci (ci μ x0l x0i r1.2) x0l x0i o3)))) (
 some (qU μ)):=by kernel_rfl
theorem CR (μ):kB ρ 189 Fe [.block 0] (qU μ)=
 some (.ret (LV.ltup []) μ):=by kernel_rfl
theorem RF (al ai b c μ):aH E ρ 189 [LV.cv (CV.ref al ai 0),LV.int .i64 b,LV.int .i64 c] μ=
 opt (zt ρ al ai c b μ) (kB ρ 189 Fe [.block 0]):=by kernel_rfl
def D4 (x0l x0i:Nat)(x1:Int):SegD:=⟨Ff,[(1,0)],cA 190 [1,0,0,0],mS [(0,LV.cv (CV.ref x0l x0i 0)),(1,LV.int .i64 x1)] []⟩
def zu (x0l x0i:Nat)(x1:Int)(μ:Mu):=(D4 x0l x0i x1).loop ρ μ
def k9 (x1:Int)(μ:Mu):St:= .exit 0 (mS [(1,LV.int .i64 x1)] []) μ
theorem AP (x0l x0i x1 μ):(D4 x0l x0i x1).rK ρ μ=
 opt (bH E.P 4 (bb μ x0l x0i) 1) fun v1=>
 opt (aQ v1) fun b2=>
 cond (b2) (
 opt (bH E.P 9 (bb μ x0l x0i) 0) fun v3=>
 opt (aN v3) fun s4=>
 cond (decide (x1 < (List.length s4 : Int))) (
 opt (bH E.P 9 (bb μ x0l x0i) 0) fun v5=>
 opt (aN v5) fun s6=>
 opt (bo s6 x1) fun y7=>
 cond (decide ((y7.toNat : Int) = (32 : Int))) (
 zu ρ x0l x0i (IntKind.wrap .i64 (x1+(1:Int))) μ) (
 some (k9 x1 μ))) (
 some (k9 x1 μ))) (
 some (k9 x1 μ)):=by kernel_rfl
theorem CS (x1 μ):kB ρ 190 Ff [.block 0,.seq (cA 190 [1,1])] (k9 x1 μ)=
 some (.ret (LV.int .i64 x1) μ):=by kernel_rfl
theorem RG (al ai b μ):aH E ρ 190 [LV.cv (CV.ref al ai 0),LV.int .i64 b] μ=
 opt (zu ρ al ai b μ) (kB ρ 190 Ff [.block 0,.seq (cA 190 [1,1])]):=by kernel_rfl
def DJ (x0l x0i:Nat)(x4 x9:Int):SegD:=⟨lA,[(4,0),(5,0),(6,0),(7,0)],cA 191 [1,1,1,1],mS [(0,LV.cv (CV.ref x0l x0i 0)),(4,LV.int .u8 x4),(9,LV.int .i64 x9)] []⟩
def zk (x0l x0i:Nat)(x4 x9:Int)(μ:Mu):=(DJ x0l x0i x4 x9).seg ρ μ
def Ad (x0l x0i:Nat)(x4 x9:Int)(x10:List UInt8):SegD:=⟨lA,[(4,0),(5,0),(6,0),(7,0)],cA 191 [1,1,1,1,1,1],mS [(0,LV.cv (CV.ref x0l x0i 0)),(4,LV.int .u8 x4),(9,LV.int .i64 x9),(10,LV.str x10)] []⟩
def mc (x0l x0i:Nat)(x4 x9:Int)(x10:List UInt8)(μ:Mu):=(Ad x0l x0i x4 x9 x10).seg ρ μ
def o9 (x4:Int)(x5:List UInt8)(x6:Int)(x7:Bool)(μ:Mu):St:= .ret (mS [(4,LV.int .u8 x4),(5,LV.str x5),(6,LV.int .i64 x6),(7,LV.bool x7)] []) μ
def Fp (pv:CV)(μ:Mu):St:= .panic pv (mS [] []) μ
def qK (x4:Int)(x5:List UInt8)(x6:Int)(x7:Bool)(μ:Mu):St:= .ret (mS [(4,LV.int .u8 x4),(5,LV.str x5),(6,LV.int .i64 x6),(7,LV.bool x7)] []) μ
def Ib (pv:CV)(μ:Mu):St:= .panic pv (mS [] []) μ
theorem J4 (x0l x0i x4 x9 x10 μ):(Ad x0l x0i x4 x9 x10).sK ρ μ=
 callK (ρ.call 169 [LV.cv (CV.ref x0l x0i 0), LV.int .i64 x9, LV.cv (CV.clo 132 [])] μ) (fun v21 μ22 =>
 opt (aX v21) fun xs25=>
 opt (aB xs25) fun q26=>
 opt (aN q26.1) fun s27=>
 opt (aB q26.2) fun q28=>
 opt (aI .i64 q28.1) fun n29=>
 opt (aS q28.2) fun u30=>
 ay (bn (List.length x10 + List.length s27)) (
 some (o9 x4 (x10++s27) n29 (!decide (s27=([]:List UInt8))) μ22))) (pX Fp):=by kernel_rfl
theorem mT (x4 x5 x6 x7 μ):kS ρ lA [] [(4,0),(5,0),(6,0),(7,0)] (o9 x4 x5 x6 x7 μ)=
 some (qK x4 x5 x6 x7 μ):=by kernel_rfl
theorem Mb (x0l x0i x4 x9 μ):(DJ x0l x0i x4 x9).sK ρ μ=
 callK (ρ.call 168 [LV.cv (CV.ref x0l x0i 0), LV.int .i64 x9] μ) (fun v11 μ12 =>
 opt (aX v11) fun xs15=>
 opt (aB xs15) fun q16=>
 opt (aI .u8 q16.1) fun n17=>
 opt (aB q16.2) fun q18=>
 opt (aI .i64 q18.1) fun n19=>
 opt (aS q18.2) fun u20=>
 cond (decide (n17 = (43 : Int))) (
 cond (decide (n17 = (45 : Int))) (
 opt (mc ρ x0l x0i x4 n19 ([45]:List UInt8) μ12) (kS ρ lA [] [(4,0),(5,0),(6,0),(7,0)])) (
 opt (mc ρ x0l x0i x4 n19 ([]:List UInt8) μ12) (kS ρ lA [] [(4,0),(5,0),(6,0),(7,0)]))) (
 cond (decide (n17 = (45 : Int))) (
 cond (decide (n17 = (45 : Int))) (
 opt (mc ρ x0l x0i x4 n19 ([45]:List UInt8) μ12) (kS ρ lA [] [(4,0),(5,0),(6,0),(7,0)])) (
 opt (mc ρ x0l x0i x4 n19 ([]:List UInt8) μ12) (kS ρ lA [] [(4,0),(5,0),(6,0),(7,0)]))) (
 opt (mc ρ x0l x0i x4 x9 ([]:List UInt8) μ12) (kS ρ lA [] [(4,0),(5,0),(6,0),(7,0)])))) (pX Ib):=by kernel_rfl
theorem td (x4 x5 x6 x7 μ):kB ρ 191 lA [] (qK x4 x5 x6 x7 μ)=
 some (.ret (LV.ltup [LV.int .u8 x4,LV.str x5,LV.int .i64 x6,LV.bool x7]) μ):=by kernel_rfl
theorem RH (al ai b μ):aH E ρ 191 [LV.cv (CV.ref al ai 0),LV.int .i64 b] μ=
 callK (ρ.call 168 [LV.cv (CV.ref al ai 0), LV.int .i64 b] μ) (fun v1 μ2 =>
 opt (aX v1) fun xs5=>
 opt (aB xs5) fun q6=>
 opt (aI .u8 q6.1) fun n7=>
 opt (aB q6.2) fun q8=>
 opt (aI .i64 q8.1) fun n9=>
 opt (aS q8.2) fun u10=>
 cond (!decide (IntKind.wrap .u8 ((BitVec.ofInt (IntKind.bits .u8) n7 &&& ~~~BitVec.ofInt (IntKind.bits .u8) (32 : Int)).toNat : Int) = (69 : Int))) (
 cond (!decide (IntKind.wrap .u8 ((BitVec.ofInt (IntKind.bits .u8) n7 &&& ~~~BitVec.ofInt (IntKind.bits .u8) (32 : Int)).toNat : Int) = (68 : Int))) (
 some (.ret (LV.ltup [LV.int .u8 (0:Int),LV.str ([]:List UInt8),LV.int .i64 b,LV.bool false]) μ2)) (
 opt (zk ρ al ai (IntKind.wrap .u8 ((BitVec.ofInt (IntKind.bits .u8) n7 &&& ~~~BitVec.ofInt (IntKind.bits .u8) (32:Int)).toNat:Int)) n9 μ2) (kB ρ 191 lA []))) (
 opt (zk ρ al ai (IntKind.wrap .u8 ((BitVec.ofInt (IntKind.bits .u8) n7 &&& ~~~BitVec.ofInt (IntKind.bits .u8) (32:Int)).toNat:Int)) n9 μ2) (kB ρ 191 lA []))) pP:=by kernel_rfl
theorem RI (a μ):aH E ρ 192 [LV.str a] μ=
 callK (ρ.call 45 [LV.str a] μ) (fun v1 μ2 =>
 opt (aX v1) fun xs5=>
 opt (aB xs5) fun q6=>
 opt (aI .i64 q6.1) fun n7=>
 opt (aB q6.2) fun q8=>
 opt (d8 q8.1) fun c9=>
 opt (aS q8.2) fun u10=>
 cond (decide ((10 : Int) < (List.length a : Int))) (
 callK (ρ.call 170 [LV.int .i64 (28 : Int)] μ2) (fun v11 μ12 =>
 opt (aX v11) fun xs15=>
 opt (aS xs15) fun u16=>
 callK (ρ.call 66 [LV.int .i64 n7] μ12) (fun v17 μ18 =>
 opt (aN v17) fun s21=>
 some (.ret (LV.cv (CV.agg [CV.int .i64 (1:Int),CV.int .i64 (0:Int),CV.str s21])) μ18)) pP) pP) (
 opt (yZ (LV.cv c9)) fun b22=>
 cond (!b22) (
 callK (ρ.call 170 [LV.int .i64 (28 : Int)] μ2) (fun v23 μ24 =>
 opt (aX v23) fun xs27=>
 opt (aS xs27) fun u28=>
 callK (ρ.call 66 [LV.int .i64 n7] μ24) (fun v29 μ30 =>
 opt (aN v29) fun s33=>
 some (.ret (LV.cv (CV.agg [CV.int .i64 (1:Int),CV.int .i64 (0:Int),CV.str s33])) μ30)) pP) pP) (
 cond (decide ((2147483647 : Int) < n7)) (
 callK (ρ.call 170 [LV.int .i64 (28 : Int)] μ2) (fun v34 μ35 =>
 opt (aX v34) fun xs38=>
 opt (aS xs38) fun u39=>
 callK (ρ.call 66 [LV.int .i64 n7] μ35) (fun v40 μ41 =>
 opt (aN v40) fun s44=>
 some (.ret (LV.cv (CV.agg [CV.int .i64 (1:Int),CV.int .i64 (0:Int),CV.str s44])) μ41)) pP) pP) (
 callK (ρ.call 66 [LV.int .i64 n7] μ2) (fun v45 μ46 =>
 opt (aN v45) fun s49=>
 some (.ret (LV.cv (CV.agg [CV.int .i64 (1:Int),CV.int .i64 (0:Int),CV.str s49])) μ46)) pP)))) pP:=by kernel_rfl
theorem RJ (a b μ):aH E ρ 193 [LV.str a,LV.str b] μ=
 callK (ρ.call 62 [LV.str a, LV.str ([48] : List UInt8)] μ) (fun v1 μ2 =>
 opt (aN v1) fun s5=>
 callK (ρ.call 63 [LV.str b, LV.str ([48] : List UInt8)] μ2) (fun v6 μ7 =>
 opt (aN v6) fun s10=>
 some (.ret (LV.int .i64 (IntKind.wrap .i64 ((List.length s5:Int)+(List.length s10:Int)))) μ7)) pP) pP:=by kernel_rfl
theorem RL (μ):aH E ρ 196 [] μ=
 some (.ret (LV.cv (CV.mview [Value.string ⟨⟨([60,61]:List UInt8)⟩⟩,Value.string ⟨⟨([62,61]:List UInt8)⟩⟩,Value.string ⟨⟨([61,61]:List UInt8)⟩⟩,Value.string ⟨⟨([47,61]:List UInt8)⟩⟩,Value.string ⟨⟨([60]:List UInt8)⟩⟩,Value.string ⟨⟨([62]:List UInt8)⟩⟩] [CV.str ([46,76,69,46]:List UInt8),CV.str ([46,71,69,46]:List UInt8),CV.str ([46,69,81,46]:List UInt8),CV.str ([46,78,69,46]:List UInt8),CV.str ([46,76,84,46]:List UInt8),CV.str ([46,71,84,46]:List UInt8)])) μ):=by kernel_rfl
end
end Go.Abs
set_option linter.unusedVariables false
set_option linter.unusedSimpArgs false
set_option maxRecDepth 100000
namespace Go.Abs
open Go Go.Proofs
def Sc (μ:Mu)(l i:Nat)(s:List UInt8)(fx:Bool)(r:List LV):Prop:=bb μ l i= .cells (LV.str s::LV.bool fx::r)
def aF:List UInt8→Nat
 |[]=>0
 |c::r=>if c=32 then aF r+1 else 0
def skipN (fx:Bool)(s:List UInt8)(n:Nat):Nat:=if fx then n+aF (s.drop n)else n
section
variable {μ:Mu}{l i:Nat}{s:List UInt8}{fx:Bool}{r:List LV}
theorem Ox (h:Sc μ l i s fx r)(hs:s.length≤1000000): ∀(k n:Nat),n+k=s.length→zu (ev E) l i (n:Int) μ=some (k9 (skipN fx s n:Nat) μ):=by
 intro k
 induction k with
 |zero=>
  intro n hk
  refine aW ?_
  rw[AP,h]
  simp only[uS,qa,aa,ae,fm,dm,aj]
  have:List.drop n s=[]:=List.drop_eq_nil_of_le (by omega)
  have h1:decide ((n:Int)<(s.length:Int))=false:=by simp;omega
  rw[h1]
  cases fx<;>simp[skipN,aF,this]
 |succ k ih=>
  intro n hk
  refine aW ?_
  rw[AP,h]
  simp only[uS,qa,aa,ae,fm,dm,aj]
  have h1:decide ((n:Int)<(s.length:Int))=true:=by simp;omega
  have hn:n<s.length:=by omega
  rw[h1,lw,List.getElem?_eq_getElem hn,aa]
  have hd:List.drop n s=s[n]::List.drop (n+1) s:=List.drop_eq_getElem_cons hn
  have e:IntKind.wrap .i64 ((n:Int)+1)=((n+1:Nat):Int):=by rw[cp (by omega) (by omega)];omega
  rw[e,ih (n+1) (by omega)]
  cases fx
  ·simp[skipN]
  ·simp only[cond_true,skipN,if_true,hd,aF]
   by_cases hc:s[n]=32
   ·have:decide (((s[n]).toNat:Int)=32)=true:=by rw[hc];decide
    rw[this]
    simp only[cond_true,hc,if_true]
    congr 3
    omega
   ·have:decide (((s[n]).toNat:Int)=32)=false:=by
     simp only[decide_eq_false_iff_not]
     intro h2
     apply hc
     apply UInt8.toNat.inj
     have:(s[n]).toNat=32:=by omega
     rw[this];rfl
    rw[this]
    simp[hc]
theorem PO (h:Sc μ l i s fx r)(hs:s.length≤1000000){n:Nat}(hn:n≤s.length):(ev E).call 190 [LV.cv (CV.ref l i 0),LV.int .i64 (n:Int)] μ=some (.ret (LV.int .i64 (skipN fx s n:Nat)) μ):=by
 refine aO ?_
 rw[RG,Ox h hs (s.length-n) n (by omega),aa,CS]
theorem gL: ∀(l:List UInt8),aF l≤l.length
 |[]=>Nat.le_refl _
 |c::r=>by
  unfold aF
  have:=gL r
  split<;>simp<;>omega
theorem Bs {n:Nat}(hn:n≤s.length):skipN fx s n≤s.length:=by
 unfold skipN
 have:=gL (s.drop n)
 rw[List.length_drop]at this
 split<;>omega
theorem Br {n:Nat}:n≤skipN fx s n:=by
 unfold skipN
 split<;>omega
def atC (fx:Bool)(s:List UInt8)(n:Nat):UInt8:=(s[skipN fx s n]?).getD 0
def atE (fx:Bool)(s:List UInt8)(n:Nat):Nat:=if skipN fx s n<s.length then skipN fx s n+1 else skipN fx s n
theorem gU (h:Sc μ l i s fx r)(hs:s.length≤1000000){n:Nat}(hn:n≤s.length):
  (ev E).call 168 [LV.cv (CV.ref l i 0),LV.int .i64 (n:Int)] μ=some (.ret (.ltup [LV.int .u8 ((atC fx s n).toNat:Int),LV.int .i64 (atE fx s n:Nat)]) μ):=by
 refine aO ?_
 rw[Ry,PO h hs hn,ad,ao,aa,h,fm,dm,aa,aj,aa]
 have hle:=Bs (fx:=fx) hn
 by_cases hlt:skipN fx s n<s.length
 ·have h1:decide ((s.length:Int)≤(skipN fx s n:Int))=false:=by simp;omega
  rw[h1,cond_false]
  have h2:HL (ev E) l i (skipN fx s n:Nat) μ=some (qG ((atC fx s n).toNat:Int) (atE fx s n:Nat) μ):=by
   refine aZ ?_
   rw[L3,h,fm,dm,aa,aj,aa,lw,List.getElem?_eq_getElem hlt,aa]
   simp only[atC,atE,hlt,if_true,List.getElem?_eq_getElem,Option.getD_some]
   rw[cp (by omega) (by omega)]
   rfl
  rw[h2,aa,Cs]
 ·have h1:decide ((s.length:Int)≤(skipN fx s n:Int))=true:=by simp;omega
  rw[h1,cond_true]
  have:s[skipN fx s n]? =none:=List.getElem?_eq_none (by omega)
  simp only[atC,atE,hlt,if_false,this,Option.getD_none]
  rfl
def ex (fx:Bool)(p:UInt8→Bool):List UInt8→Nat→List UInt8×Nat
 |[],_=>([],0)
 |c::r,k=>if fx&&c == 32 then ex fx p r (k+1)else if c != 0&&p c then(c::(ex fx p r 0).1,k+1+(ex fx p r 0).2)else([],0)
def cj (fx:Bool)(p:UInt8→Bool)(s:List UInt8)(n:Nat):List UInt8:=(ex fx p (s.drop n) 0).1
def runE (fx:Bool)(p:UInt8→Bool)(s:List UInt8)(n:Nat):Nat:=n+(ex fx p (s.drop n) 0).2
theorem tB {p:UInt8→Bool}: ∀(l:List UInt8) (k:Nat),ex true p l k=ex true p (l.drop (aF l)) (k+aF l)
 |[],k=>rfl
 |c::r,k=>by
  by_cases hc:c=32
  ·have e1:ex true p (c::r) k=ex true p r (k+1):=by simp[ex,hc]
   have e2:aF (c::r)=aF r+1:=by simp[aF,hc]
   rw[e1,e2,tB r (k+1)]
   simp only[List.drop_succ_cons]
   congr 1
   omega
  ·have e2:aF (c::r)=0:=by simp[aF,hc]
   rw[e2];rfl
theorem iL: ∀(l:List UInt8) (c:UInt8) (r:List UInt8),l.drop (aF l)=c::r→c≠32
 |[],c,r,h=>by simp[aF]at h
 |d::t,c,r,h=>by
  by_cases hd:d=32
  ·have e2:aF (d::t)=aF t+1:=by simp[aF,hd]
   rw[e2,List.drop_succ_cons]at h
   exact iL t c r h
  ·have e2:aF (d::t)=0:=by simp[aF,hd]
   rw[e2]at h
   simp only[List.drop_zero,List.cons.injEq]at h
   rw[←h.1];exact hd
theorem Bm {p:UInt8→Bool}{n:Nat}:(cj fx p s n,runE fx p s n)=if atC fx s n != 0&&p (atC fx s n)then(atC fx s n::cj fx p s (atE fx s n),runE fx p s (atE fx s n))else([],n):=by
 have key: ∀m k,skipN fx s n=m→m=n+k→ex fx p (s.drop n) 0=ex fx p (s.drop m) k→(∀c t,s.drop m=c::t→(fx&&c == 32)=false)→
   (cj fx p s n,runE fx p s n)=if atC fx s n != 0&&p (atC fx s n)then(atC fx s n::cj fx p s (atE fx s n),runE fx p s (atE fx s n))else([],n):=by
  intro m k hm hk hrun hc
  simp only[cj,runE,atC,atE,hm]
  rw[hrun]
  by_cases hlt:m<s.length
  ·have hd:s.drop m=s[m]::s.drop (m+1):=List.drop_eq_getElem_cons hlt
   have hc':=hc _ _ hd
   rw[hd]
   simp only[ex,hc',Bool.false_eq_true,if_false,List.getElem?_eq_getElem hlt,Option.getD_some,hlt,if_true]
   split
   ·simp only[Prod.mk.injEq,true_and];omega
   ·rfl
  ·have hd:s.drop m=[]:=List.drop_eq_nil_of_le (by omega)
   rw[hd]
   simp[ex,List.getElem?_eq_none (by omega:s.length≤m)]
 cases fx with
 |false=>exact key n 0 rfl rfl rfl fun c t _=>rfl
 |true=>
  refine key (n+aF (s.drop n)) (aF (s.drop n)) (by simp[skipN]) rfl ?_ fun c t h=> ?_
  ·rw[tB,List.drop_drop,Nat.zero_add]
  ·have:=iL (s.drop n) c t (by rw[List.drop_drop];exact h)
   simp[this]
theorem nD {p:UInt8→Bool}{n:Nat}(h:(atC fx s n != 0&&p (atC fx s n))=true):cj fx p s n=atC fx s n::cj fx p s (atE fx s n)∧runE fx p s n=runE fx p s (atE fx s n):=by
 have:=Bm (fx:=fx) (s:=s) (p:=p) (n:=n)
 rw[h,if_pos rfl,Prod.mk.injEq]at this
 exact this
theorem g8 {p:UInt8→Bool}{n:Nat}(h:(atC fx s n != 0&&p (atC fx s n))=false):cj fx p s n=[]∧runE fx p s n=n:=by
 have:=Bm (fx:=fx) (s:=s) (p:=p) (n:=n)
 rw[h,if_neg (by simp),Prod.mk.injEq]at this
 exact this
theorem vf {n:Nat}(h:atC fx s n≠0):n<atE fx s n∧atE fx s n≤s.length:=by
 have h1:=Br (fx:=fx) (s:=s) (n:=n)
 by_cases hlt:skipN fx s n<s.length
 ·simp only[atE,hlt,if_true];omega
 ·exfalso
  apply h
  simp only[atC,List.getElem?_eq_none (by omega:s.length≤skipN fx s n),Option.getD_none]
theorem gh {n:Nat}(hn:n≤s.length):atE fx s n≤s.length:=by
 have:=Bs (fx:=fx) hn
 unfold atE
 split<;>omega
theorem nR {c:UInt8}:decide ((c.toNat:Int)=0)= !(c != 0):=by
 by_cases h:c=0
 ·subst h;rfl
 ·have:c.toNat≠0:=fun h2=>h (UInt8.toNat.inj h2)
  have h1:(c != 0)=true:=by simpa using h
  rw[h1]
  simp only[Bool.not_true,decide_eq_false_iff_not]
  omega
theorem Ou (h:Sc μ l i s fx r)(hs:s.length≤1000000){f:FuncId}{p:UInt8→Bool}(hp: ∀c:UInt8,(ev E).call f [LV.int .u8 (c.toNat:Int)] μ=some (.ret (LV.bool (p c)) μ)):
  ∀(k n:Nat) (acc:List UInt8),s.length-n≤k→n≤s.length→acc.length+(s.length-n)≤1000000→zr (ev E) l i (n:Int) f (br acc) μ=some (ni (acc++cj fx p s n) (runE fx p s n:Nat) μ):=by
 intro k
 induction k with
 |zero=>
  intro n acc hk hn ha
  refine aW ?_
  rw[AM,gU h hs hn]
  simp only[ad,aq,aa,am,ao,ak]
  have h0:atC fx s n=0:=by
   by_cases h0:atC fx s n=0
   ·exact h0
   ·have:=vf h0;omega
  obtain⟨h1,h2⟩:=g8 (fx:=fx) (s:=s) (p:=p) (n:=n) (by rw[h0];rfl)
  rw[h0,h1,h2]
  simp only[nR,dh,aa,List.append_nil]
  rfl
 |succ k ih=>
  intro n acc hk hn ha
  refine aW ?_
  rw[AM,gU h hs hn]
  simp only[ad,aq,aa,am,ao,ak,nR]
  by_cases h0:atC fx s n=0
  ·obtain⟨h1,h2⟩:=g8 (fx:=fx) (s:=s) (p:=p) (n:=n) (by rw[h0];rfl)
   rw[h0,h1,h2]
   simp only[dh,aa,List.append_nil]
   rfl
  ·have h3:(atC fx s n != 0)=true:=by simp[h0]
   rw[h3,Bool.not_true,cond_false,hp,ad,ae,aa]
   cases hpc:p (atC fx s n)with
   |false=>
    obtain⟨h1,h2⟩:=g8 (fx:=fx) (s:=s) (p:=p) (n:=n) (by rw[hpc];simp)
    rw[h1,h2]
    simp only[Bool.not_false,cond_true,dh,aa,List.append_nil]
   |true=>
    obtain⟨h1,h2⟩:=nD (fx:=fx) (s:=s) (p:=p) (n:=n) (by rw[hpc,h3];rfl)
    obtain⟨h4,h5⟩:=vf h0
    have h6:HM (ev E) l i f (br acc) ((atC fx s n).toNat:Int) (atE fx s n:Nat) μ=some (qH l i (atE fx s n:Nat) f (br (acc++[atC fx s n])) μ):=by
     refine aZ ?_
     have e:[CV.int .u8 ((atC fx s n).toNat:Int)]=br [atC fx s n]:=rfl
     rw[L4,e,BM (by simp;omega),az,BV]
    simp only[Bool.not_true,cond_false,h6,aa,Ct]
    rw[ih (atE fx s n) (acc++[atC fx s n]) (by omega) h5 (by simp;omega),h1,h2]
    simp
theorem oA (h:Sc μ l i s fx r)(hs:s.length≤1000000){f:FuncId}{p:UInt8→Bool}(hp: ∀c:UInt8,(ev E).call f [LV.int .u8 (c.toNat:Int)] μ=some (.ret (LV.bool (p c)) μ)){n:Nat}(hn:n≤s.length):
  (ev E).call 169 [LV.cv (CV.ref l i 0),LV.int .i64 (n:Int),LV.cv (CV.clo f [])] μ=some (.ret (.ltup [LV.str (cj fx p s n),LV.int .i64 (runE fx p s n:Nat)]) μ):=by
 refine aO ?_
 have:=Ou h hs hp (s.length-n) n [] (Nat.le_refl _) hn (by simp;omega)
 have e:br []=[]:=rfl
 rw[e,List.nil_append]at this
 rw[Rz,this,aa,CO]
end
end Go.Abs
namespace Go.Abs
def aU (c:UInt8):Bool:=(decide (97≤c.toNat)&&decide (c.toNat≤122))||(decide (65≤c.toNat)&&decide (c.toNat≤90))
def ah (c:UInt8):Bool:=decide (48≤c.toNat)&&decide (c.toNat≤57)
def aY (c:UInt8):Bool:=aU c||ah c||decide (c.toNat=95)
end Go.Abs
set_option linter.unusedVariables false
set_option linter.unusedSimpArgs false
set_option maxRecDepth 100000
namespace Go.Abs
open Go Go.Proofs
section
variable {μ:Mu}
theorem dI (a b:Nat):decide ((a:Int)≤(b:Int))=decide (a≤b):=by simp
theorem F1 {c:UInt8}:(ev E).call 90 [LV.int .u8 (c.toNat:Int)] μ=some (.ret (LV.bool (aU c)) μ):=by
 refine aO ?_
 rw[SR]
 have e1:decide ((97:Int)≤(c.toNat:Int))=decide (97≤c.toNat):=dI 97 _
 have e2:decide ((c.toNat:Int)≤122)=decide (c.toNat≤122):=dI _ 122
 have e3:decide ((65:Int)≤(c.toNat:Int))=decide (65≤c.toNat):=dI 65 _
 have e4:decide ((c.toNat:Int)≤90)=decide (c.toNat≤90):=dI _ 90
 rw[e1,e2,e3,e4]
 unfold aU
 cases decide (97≤c.toNat)<;>cases decide (c.toNat≤122)<;>cases decide (65≤c.toNat)<;>rfl
theorem lk {c:UInt8}:(ev E).call 132 [LV.int .u8 (c.toNat:Int)] μ=some (.ret (LV.bool (ah c)) μ):=by
 refine aO ?_
 rw[Rr]
 have e1:decide ((48:Int)≤(c.toNat:Int))=decide (48≤c.toNat):=dI 48 _
 have e2:decide ((c.toNat:Int)≤57)=decide (c.toNat≤57):=dI _ 57
 rw[e1,e2]
 unfold ah
 cases decide (48≤c.toNat)<;>rfl
theorem Ri {c:UInt8}:(ev E).call 93 [LV.int .u8 (c.toNat:Int)] μ=some (.ret (LV.bool (aY c)) μ):=by
 refine aO ?_
 rw[SS,F1]
 simp only[ad,aq,aa,am,ao,aj,ae,ak,az,cond_true,cond_false,Bool.not_true,Bool.not_false,av,au,ar]
 unfold aY
 cases aU c
 ·simp only[ad,aq,aa,am,ao,aj,ae,ak,az,cond_true,cond_false,Bool.not_true,Bool.not_false,av,au,ar,lk]
  cases ah c
  ·simp only[ad,aq,aa,am,ao,aj,ae,ak,az,cond_true,cond_false,Bool.not_true,Bool.not_false,av,au,ar,Bool.false_or]
   have:decide ((c.toNat:Int)=95)=decide (c.toNat=95):=by simp;omega
   rw[this]
  ·rfl
 ·rfl
def pL (x:List UInt8):List (List UInt8)→Nat→Int
 |[],_=> -1
 |a::r,j=>if x=a then(j:Int)else pL x r (j+1)
theorem uE (x:List UInt8): ∀(l:List (List UInt8)) (j:Nat),decide (0≤pL x l j)=l.contains x
 |[],j=>rfl
 |a::r,j=>by
  unfold pL
  by_cases h:x=a
  ·simp[h]
  ·have h1:(x == a)=false:=by simp[h]
   rw[if_neg h,uE x r (j+1),List.contains_cons,h1,Bool.false_or]
noncomputable def FI (n:Int)(μ:Mu):St:=if n= -1 then uw μ else uv n μ
theorem Qh {l:List (List UInt8)}{x:List UInt8}(hl:l.length≤1000000): ∀(k j:Nat),j+k=l.length→
  Fo (ev E) (bw l) x (l.length:Int) (j:Int) μ=some (FI (pL x (l.drop j) j) μ):=by
 intro k
 induction k with
 |zero=>
  intro j hj
  refine aW ?_
  rw[ED]
  have:List.drop j l=[]:=List.drop_eq_nil_of_le (by omega)
  have h1:decide ((j:Int)<(l.length:Int))=false:=by simp;omega
  rw[h1,this]
  rfl
 |succ k ih=>
  intro j hj
  refine aW ?_
  rw[ED]
  have hlt:j<l.length:=by omega
  have h1:decide ((j:Int)<(l.length:Int))=true:=by simp;omega
  have hd:List.drop j l=l[j]::List.drop (j+1) l:=List.drop_eq_getElem_cons hlt
  have hg:(bw l)[j]? =some (CV.str l[j]):=by simp[bw,hlt]
  have e:IntKind.wrap .i64 ((j:Int)+1)=((j+1:Nat):Int):=by rw[cp (by omega) (by omega)];omega
  rw[h1,ey,hg,hd,e]
  simp only[ad,aq,aa,am,ao,aj,ae,ak,az,cond_true,cond_false,Bool.not_true,Bool.not_false,av,au,ar,gP,pL]
  by_cases h:x=l[j]
  ·rw[if_pos h]
   have:decide (x=l[j])=true:=by simp[h]
   rw[this,cond_true,FI,if_neg (by omega)]
  ·rw[if_neg h]
   have:decide (x=l[j])=false:=by simp[h]
   rw[this,cond_false,ih (j+1) (by omega)]
theorem KO {l:List (List UInt8)}{x:List UInt8}(hl:l.length≤1000000):aH E (ev E) 94 [LV.cv (CV.sl (bw l)),LV.str x] μ=some (.ret (LV.int .i64 (pL x l 0)) μ):=by
  have e:(bw l).length=l.length:=by simp[bw]
  have:=Qh (μ:=μ) (l:=l) (x:=x) hl l.length 0 (by omega)
  rw[List.drop_zero]at this
  rw[ST,e]
  have e0:((0:Nat):Int)=(0:Int):=rfl
  rw[←e0,this,aa,FI]
  by_cases h:pL x l 0= -1
  ·rw[if_pos h,Ha,h]
  ·rw[if_neg h,G9]
theorem Rj {l:List (List UInt8)}{x:List UInt8}(hl:l.length≤1000000):(ev E).call 94 [LV.cv (CV.sl (bw l)),LV.str x] μ=some (.ret (LV.int .i64 (pL x l 0)) μ):=aO (KO hl)
theorem FY {l:List (List UInt8)}{x:List UInt8}(hl:l.length≤1000000):(ev E).call 50 [LV.cv (CV.sl (bw l)),LV.str x] μ=some (.ret (LV.bool (l.contains x)) μ):=by
 refine aO ?_
 rw[SB,Rj hl]
 simp only[ad,aq,aa,am,ao,aj,ae,ak,az,cond_true,cond_false,Bool.not_true,Bool.not_false,av,au,ar]
 rw[uE]
end
end Go.Abs
set_option linter.unusedVariables false
set_option linter.unusedSimpArgs false
set_option maxRecDepth 100000
namespace Go.Abs
open Go Go.Proofs
def upB (c:UInt8):UInt8:=if 97≤c.toNat∧c.toNat≤122 then c-32 else c
theorem Pf: ∀i:Fin 128,(if 0≤Lib.toUpperU (i.val:Int)then Lib.encodeRune (Lib.toUpperU (i.val:Int))else [])=[upB (UInt8.ofNat i.val)]:=by decide
theorem m4: ∀(l:List UInt8),(∀b∈l,b.toNat<128)→Lib.toUpperD l=l.map upB
 |[],_=>rfl
 |b::t,ha=>by
  have hb:=ha b List.mem_cons_self
  have ih:=m4 t (fun x hx=>ha x (List.mem_cons_of_mem _ hx))
  have h1:=Pf ⟨b.toNat,hb⟩
  simp only at h1
  unfold Lib.toUpperD at ih ⊢
  rw[Lib.mapD_step Lib.toUpperU (b::t) (by simp),Lib.decodeL_ascii b t hb]
  dsimp only
  rw[h1,List.drop_succ_cons,List.drop_zero,ih]
  simp
theorem uW {fx:Bool}{p:UInt8→Bool}: ∀(l:List UInt8) (k:Nat),∀b∈(ex fx p l k).1,p b=true
 |[],k,b,hb=>by simp[ex]at hb
 |c::r,k,b,hb=>by
  unfold ex at hb
  split at hb
  ·exact uW r (k+1) b hb
  ·split at hb
   ·rename_i h
    simp only[List.mem_cons]at hb
    rcases hb with rfl|hb
    ·simp only[Bool.and_eq_true]at h;exact h.2
    ·exact uW r 0 b hb
   ·simp at hb
theorem g7 {fx:Bool}{p:UInt8→Bool}{s:List UInt8}{n:Nat}: ∀b∈cj fx p s n,p b=true:=uW _ _
end Go.Abs
set_option linter.unusedVariables false
set_option linter.unusedSimpArgs false
set_option maxRecDepth 100000
namespace Go.Abs
open Go Go.Proofs
def bT:List (List UInt8):=[[46,76,84,46],[46,76,69,46],[46,69,81,46],[46,78,69,46],[46,71,69,46],[46,71,84,46],[46,78,79,84,46],[46,65,78,68,46],[46,79,82,46],[46,69,81,86,46],[46,78,69,81,86,46]]
def bm:List (List UInt8):=[[42,42],[47,47],[61,62],[42],[47],[43],[45],[40],[41],[44],[58],[61],[37]]
def eW:List UInt8:=[46,84,82,85,69,46]
def ee:List UInt8:=[46,70,65,76,83,69,46]
abbrev up (s:List UInt8):List UInt8:=Lib.toUpperD s
theorem sM {fx:Bool}{p:UInt8→Bool}: ∀(l:List UInt8) (k:Nat),(ex fx p l k).1.length≤l.length∧(ex fx p l k).2≤k+l.length
 |[],k=>⟨Nat.le_refl _,by simp[ex]⟩
 |c::r,k=>by
  unfold ex
  have h1:=sM (fx:=fx) (p:=p) r (k+1)
  have h2:=sM (fx:=fx) (p:=p) r 0
  split
  ·simp only[List.length_cons];omega
  ·split
   ·simp only[List.length_cons];omega
   ·simp
section
variable {μ:Mu}{l i:Nat}{s:List UInt8}{fx:Bool}{r:List LV}
theorem iy {p:UInt8→Bool}{n:Nat}(hn:n≤s.length):runE fx p s n≤s.length:=by
 have:=(sM (fx:=fx) (p:=p) (s.drop n) 0).2
 rw[List.length_drop]at this
 unfold runE
 omega
theorem i8 {p:UInt8→Bool}{n:Nat}:(cj fx p s n).length≤s.length:=by
 have:=(sM (fx:=fx) (p:=p) (s.drop n) 0).1
 rw[List.length_drop]at this
 unfold cj
 omega
theorem kE {c:UInt8}(h:aU c=true):c.toNat<128:=by
 simp only[aU,Bool.or_eq_true,Bool.and_eq_true,decide_eq_true_eq]at h
 omega
theorem QM {n:Nat}:Lib.toUpperD (cj fx aU s n)=(cj fx aU s n).map upB:=m4 _ fun b hb=>kE (g7 b hb)
theorem Q8:(ev E).call 51 [] μ=some (.ret (LV.osl (bw bT)) μ):=aO (by rw[SC];rfl)
theorem Nt:(ev E).call 52 [] μ=some (.ret (LV.osl (bw bm)) μ):=aO (by rw[SD];rfl)
def cq (fx:Bool)(s:List UInt8)(n:Nat):List UInt8:=[46]++up (cj fx aU s (atE fx s n))++[46]
def dotEnd (fx:Bool)(s:List UInt8)(n:Nat):Nat:=atE fx s (runE fx aU s (atE fx s n))
def dk (fx:Bool)(s:List UInt8)(n:Nat):Bool:=decide (atC fx s (runE fx aU s (atE fx s n))=46)&&(bT.contains (cq fx s n)||decide (cq fx s n=eW)||decide (cq fx s n=ee))
def bg (fx:Bool)(s:List UInt8)(n:Nat):List UInt8×Nat×Bool:=if atC fx s n=46 then(cq fx s n,dotEnd fx s n,dk fx s n)else([],n,false)
theorem co {c:UInt8}{k:Nat}(hk:k<256):decide ((c.toNat:Int)=(k:Int))=decide (c=UInt8.ofNat k):=by
 have h2:(UInt8.ofNat k).toNat=k:=by simp[hk]
 by_cases h:c=UInt8.ofNat k
 ·subst h
  rw[h2];simp
 ·have h1:c.toNat≠k:=fun e=>h (UInt8.toNat.inj (by rw[e,h2]))
  simp only[h,decide_false,decide_eq_false_iff_not]
  omega
theorem JF (h:Sc μ l i s fx r)(hs:s.length≤200000){n:Nat}(hn:n≤s.length):
  (ev E).call 172 [LV.cv (CV.ref l i 0),LV.int .i64 (n:Int)] μ=some (.ret (.ltup [LV.str (bg fx s n).1,LV.int .i64 ((bg fx s n).2.1:Nat),LV.bool (bg fx s n).2.2]) μ):=by
 refine aO ?_
 rw[RC,gU h (by omega) hn]
 have e46: ∀c:UInt8,decide ((c.toNat:Int)=46)=decide (c=46):=fun c=>co (k:=46) (by omega)
 simp only[ad,aq,aa,am,ao,aj,ae,ak,az,cond_true,cond_false,Bool.not_true,Bool.not_false,av,au,ar,e46]
 by_cases hc:atC fx s n=46
 ·have hle:=gh (fx:=fx) hn
  have hle2:=iy (fx:=fx) (p:=aU) hle
  have hr:=i8 (fx:=fx) (s:=s) (p:=aU) (n:=atE fx s n)
  have hu:(Lib.toUpperD (cj fx aU s (atE fx s n))).length≤s.length:=by rw[QM,List.length_map];exact hr
  have hG:HN (ev E) l i (atE fx s n:Nat) μ=some (fP (cq fx s n) (dotEnd fx s n:Nat) (dk fx s n) μ):=by
   refine aZ ?_
   rw[L6,oA h (by omega) (fun c=>F1) hle]
   simp only[ad,aq,aa,am,ao,aj,ae,ak,az,cond_true,cond_false,Bool.not_true,Bool.not_false,av,au,ar]
   rw[gU h (by omega) hle2]
   simp only[ad,aq,aa,am,ao,aj,ae,ak,az,cond_true,cond_false,Bool.not_true,Bool.not_false,av,au,ar]
   rw[NC (by omega)]
   simp only[ad,aq,aa,am,ao,aj,ae,ak,az,cond_true,cond_false,Bool.not_true,Bool.not_false,av,au,ar]
   rw[bq (by simp;omega),bq (by simp;omega)]
   simp only[ad,aq,aa,am,ao,aj,ae,ak,az,cond_true,cond_false,Bool.not_true,Bool.not_false,av,au,ar,Q8]
   rw[FY (l:=bT) (by decide)]
   simp only[ad,aq,aa,am,ao,aj,ae,ak,az,cond_true,cond_false,Bool.not_true,Bool.not_false,av,au,ar,e46]
   have ht:[46]++Lib.toUpperD (cj fx aU s (atE fx s n))++[46]=cq fx s n:=rfl
   have h3:([46,84,82,85,69,46]:List UInt8)=eW:=rfl
   have h4:([46,70,65,76,83,69,46]:List UInt8)=ee:=rfl
   rw[ht,h3,h4]
   unfold dk
   have he:atE fx s (runE fx aU s (atE fx s n))=dotEnd fx s n:=rfl
   rw[he]
   cases bT.contains (cq fx s n)<;>cases decide (cq fx s n=eW)<;>cases decide (atC fx s (runE fx aU s (atE fx s n))=46)<;>simp
  rw[hG]
  simp only[hc,decide_true,ad,aq,aa,am,ao,aj,ae,ak,az,cond_true,cond_false,Bool.not_true,Bool.not_false,av,au,ar,Cw,bg,if_true]
 ·simp only[hc,decide_false,ad,aq,aa,am,ao,aj,ae,ak,az,cond_true,cond_false,Bool.not_true,Bool.not_false,av,au,ar,bg,if_false]
end
end Go.Abs
set_option linter.unusedVariables false
set_option linter.unusedSimpArgs false
set_option maxRecDepth 100000
namespace Go.Abs
open Go Go.Proofs
section
variable {μ:Mu}{l i:Nat}{s:List UInt8}{fx:Bool}{r:List LV}
theorem B1: ∀i:Fin 256,IntKind.wrap .u8 ((BitVec.ofInt (IntKind.bits .u8) (i.val:Int) &&& ~~~BitVec.ofInt (IntKind.bits .u8) (32:Int)).toNat:Int)=(((UInt8.ofNat i.val) &&& 223).toNat:Int):=by decide
theorem N8 (c:UInt8):IntKind.wrap .u8 ((BitVec.ofInt (IntKind.bits .u8) (c.toNat:Int) &&& ~~~BitVec.ofInt (IntKind.bits .u8) (32:Int)).toNat:Int)=((c &&& 223).toNat:Int):=by
 have:=B1 ⟨c.toNat,c.toNat_lt⟩
 simpa using this
def bN (fx:Bool)(s:List UInt8)(n:Nat):UInt8:=atC fx s n &&& 223
def bX (fx:Bool)(s:List UInt8)(n:Nat):List UInt8:=if atC fx s (atE fx s n)=45 then [45]else []
def expStart (fx:Bool)(s:List UInt8)(n:Nat):Nat:=if atC fx s (atE fx s n)=43∨atC fx s (atE fx s n)=45 then atE fx s (atE fx s n)else atE fx s n
def aP (fx:Bool)(s:List UInt8)(n:Nat):List UInt8:=cj fx ah s (expStart fx s n)
def aL (fx:Bool)(s:List UInt8)(n:Nat):UInt8×List UInt8×Nat×Bool:=
 if bN fx s n=69∨bN fx s n=68 then(bN fx s n,bX fx s n++aP fx s n,runE fx ah s (expStart fx s n),!decide (aP fx s n=[]))else(0,[],n,false)
theorem PP (h:Sc μ l i s fx r)(hs:s.length≤200000){n:Nat}(hn:n≤s.length):
  (ev E).call 191 [LV.cv (CV.ref l i 0),LV.int .i64 (n:Int)] μ=some (.ret (.ltup [LV.int .u8 ((aL fx s n).1.toNat:Int),LV.str (aL fx s n).2.1,LV.int .i64 ((aL fx s n).2.2.1:Nat),LV.bool (aL fx s n).2.2.2]) μ):=by
 have e69: ∀c:UInt8,decide ((c.toNat:Int)=69)=decide (c=69):=fun c=>co (k:=69) (by omega)
 have e68: ∀c:UInt8,decide ((c.toNat:Int)=68)=decide (c=68):=fun c=>co (k:=68) (by omega)
 have e43: ∀c:UInt8,decide ((c.toNat:Int)=43)=decide (c=43):=fun c=>co (k:=43) (by omega)
 have e45: ∀c:UInt8,decide ((c.toNat:Int)=45)=decide (c=45):=fun c=>co (k:=45) (by omega)
 have hle:=gh (fx:=fx) hn
 have hle2:=gh (fx:=fx) hle
 have hst:expStart fx s n≤s.length:=by unfold expStart;split<;>assumption
 have hr:=i8 (fx:=fx) (s:=s) (p:=ah) (n:=expStart fx s n)
 have hG: ∀(sg:List UInt8),sg.length≤1→mc (ev E) l i ((bN fx s n).toNat:Int) (expStart fx s n:Nat) sg μ=some (o9 ((bN fx s n).toNat:Int) (sg++aP fx s n) (runE fx ah s (expStart fx s n):Nat) (!decide (aP fx s n=[])) μ):=by
  intro sg hsg
  refine aZ ?_
  rw[J4,oA h (by omega) (fun c=>lk) hst]
  simp only[ad,aq,aa,am,ao,aj,ae,ak,az,cond_true,cond_false,Bool.not_true,Bool.not_false,av,au,ar]
  rw[bq (by omega)]
  rfl
 have hG5:zk (ev E) l i ((bN fx s n).toNat:Int) (atE fx s n:Nat) μ=some (qK ((bN fx s n).toNat:Int) (bX fx s n++aP fx s n) (runE fx ah s (expStart fx s n):Nat) (!decide (aP fx s n=[])) μ):=by
  refine aZ ?_
  rw[Mb,gU h (by omega) hle]
  simp only[ad,aq,aa,am,ao,aj,ae,ak,az,cond_true,cond_false,Bool.not_true,Bool.not_false,av,au,ar,e43,e45]
  by_cases h1:atC fx s (atE fx s n)=43
  ·have hx:expStart fx s n=atE fx s (atE fx s n):=by simp[expStart,h1]
   have hg:bX fx s n=[]:=by simp[bX,h1]
   have:=hG [] (by simp)
   rw[hx]at this
   simp only[h1,decide_true,ad,aq,aa,am,ao,aj,ae,ak,az,cond_true,cond_false,Bool.not_true,Bool.not_false,av,au,ar,hg]
   have h2:decide ((43:UInt8)=45)=false:=by decide
   rw[h2,cond_false,this,aa,mT,hx]
  ·by_cases h2:atC fx s (atE fx s n)=45
   ·have hx:expStart fx s n=atE fx s (atE fx s n):=by simp[expStart,h2]
    have hg:bX fx s n=[45]:=by simp[bX,h2]
    have:=hG [45] (by simp)
    rw[hx]at this
    have h3:decide ((45:UInt8)=43)=false:=by decide
    simp only[h2,h3,decide_true,ad,aq,aa,am,ao,aj,ae,ak,az,cond_true,cond_false,Bool.not_true,Bool.not_false,av,au,ar,hg]
    rw[this,aa,mT,hx]
   ·have hx:expStart fx s n=atE fx s n:=by simp[expStart,h1,h2]
    have hg:bX fx s n=[]:=by simp[bX,h2]
    have:=hG [] (by simp)
    rw[hx]at this
    simp only[h1,h2,decide_false,ad,aq,aa,am,ao,aj,ae,ak,az,cond_true,cond_false,Bool.not_true,Bool.not_false,av,au,ar,hg]
    rw[this,aa,mT,hx]
 refine aO ?_
 rw[RH,gU h (by omega) hn]
 simp only[ad,aq,aa,am,ao,aj,ae,ak,az,cond_true,cond_false,Bool.not_true,Bool.not_false,av,au,ar,N8]
 have hL:atC fx s n &&& 223=bN fx s n:=rfl
 rw[hL]
 simp only[e69,e68]
 by_cases h1:bN fx s n=69
 ·have:aL fx s n=(bN fx s n,bX fx s n++aP fx s n,runE fx ah s (expStart fx s n),!decide (aP fx s n=[])):=by simp[aL,h1]
  rw[this,hG5]
  simp only[h1,decide_true,ad,aq,aa,am,ao,aj,ae,ak,az,cond_true,cond_false,Bool.not_true,Bool.not_false,av,au,ar]
  rw[←h1,td]
 ·by_cases h2:bN fx s n=68
  ·have:aL fx s n=(bN fx s n,bX fx s n++aP fx s n,runE fx ah s (expStart fx s n),!decide (aP fx s n=[])):=by simp[aL,h2]
   rw[this,hG5]
   have h3:decide ((68:UInt8)=69)=false:=by decide
   simp only[h2,h3,decide_true,ad,aq,aa,am,ao,aj,ae,ak,az,cond_true,cond_false,Bool.not_true,Bool.not_false,av,au,ar]
   rw[←h2,td]
  ·have:aL fx s n=(0,[],n,false):=by simp[aL,h1,h2]
   rw[this]
   simp only[h1,h2,decide_false,ad,aq,aa,am,ao,aj,ae,ak,az,cond_true,cond_false,Bool.not_true,Bool.not_false,av,au,ar]
   rfl
structure Tok where
 kind:Int
 type:Int
 text:List UInt8
 deriving DecidableEq
def Tok.cv (t:Tok):CV:=CV.agg [CV.int .i64 t.kind,CV.int .i64 t.type,CV.str t.text]
def gH (e:Int):CV:=CV.iface 162 (CV.agg [CV.int .i64 e])
theorem jM {e:Int}:(ev E).call 170 [LV.int .i64 e] μ=some (.panic (gH e) μ):=aO (by rw[RA];rfl)
def bh (s:List UInt8):List UInt8:=if s=[]then [48]else s
def dn (s:List UInt8):List UInt8:=Lib.trimLeftB s 48
def bQ (s:List UInt8):List UInt8:=Lib.trimRightB s 48
theorem PV {t:List UInt8}:(ev E).call 65 [LV.str t,LV.bool true] μ=some (.ret (LV.str (bh (dn t))) μ):=by
 refine aO ?_
 rw[Qp,Nw (by decide)]
 simp only[ad,aq,aa,am,ao,aj,ae,ak,az,cond_true,cond_false,Bool.not_true,Bool.not_false,av,au,ar,bh,dn]
 by_cases h:Lib.trimLeftB t 48=[]<;>simp[h]
theorem PW {t:List UInt8}(ht:t.length≤1000000):(ev E).call 65 [LV.str t,LV.bool false] μ=some (.ret (LV.str (bh (bQ t))) μ):=by
 refine aO ?_
 rw[Qp,Nx (by decide) ht]
 simp only[ad,aq,aa,am,ao,aj,ae,ak,az,cond_true,cond_false,Bool.not_true,Bool.not_false,av,au,ar,bh,bQ]
 by_cases h:Lib.trimRightB t 48=[]<;>simp[h]
theorem yu (t:List UInt8):(dn t).length≤t.length:=by
 unfold dn Lib.trimLeftB
 exact(List.dropWhile_suffix _).length_le
theorem yv (t:List UInt8):(bQ t).length≤t.length:=by
 unfold bQ Lib.trimRightB
 rw[List.length_reverse]
 exact Nat.le_trans (List.dropWhile_suffix _).length_le (by simp)
theorem PR {a b:List UInt8}(ha:a.length≤1000000)(hb:b.length≤1000000):(ev E).call 193 [LV.str a,LV.str b] μ=some (.ret (LV.int .i64 ((dn a).length+(bQ b).length:Nat)) μ):=by
 refine aO ?_
 rw[RJ,Nw (by decide)]
 simp only[ad,aq,aa,am,ao,aj,ae,ak,az,cond_true,cond_false,Bool.not_true,Bool.not_false,av,au,ar]
 rw[Nx (by decide) hb]
 simp only[ad,aq,aa,am,ao,aj,ae,ak,az,cond_true,cond_false,Bool.not_true,Bool.not_false,av,au,ar]
 have h1:=yu a
 have h2:=yv b
 have e1:Lib.trimLeftB a 48=dn a:=rfl
 have e2:Lib.trimRightB b 48=bQ b:=rfl
 rw[e1,e2,cp (by omega) (by omega)]
 simp
def cg (s:List UInt8):Int:=match Lib.atoiAll s with| .ok v=>v| .range=>Lib.atoiSat s|_=>0
def iT (s:List UInt8):Bool:=match Lib.atoiAll s with| .ok _=>true|_=>false
def yO (s:List UInt8):CV:=match iT s with|true=> .v .nilIface|false=> .iface 146 .undef
theorem uB (s:List UInt8):vg 146 s= .ltup [LV.int .i64 (cg s),.cv (yO s)]:=by
 unfold vg yO cg iT
 cases Lib.atoiAll s<;>rfl
theorem Hf (s:List UInt8):yZ (.cv (yO s))=some (iT s):=by
 unfold yO
 cases iT s<;>rfl
theorem iK (s:List UInt8): -9223372036854775808≤cg s∧cg s≤9223372036854775807:=by
 unfold cg
 split
 ·rename_i v h
  unfold Lib.atoiAll at h
  cases s with
  |nil=>cases h
  |cons c r=>
   simp only at h
   split at h
   ·cases h
   ·cases h
   ·rename_i u hu
    split at h
    ·cases h
    ·rename_i h1
     split at h
     ·cases h
     ·rename_i h2
      injection h with h
      subst h
      split<;>omega
 ·unfold Lib.atoiSat
  split<;>omega
 ·omega
theorem mh {c:CV}:d8 (.cv c)=some c:=rfl
def Qz (μ:Mu):Except Int Tok→Out
 | .ok t=> .ret (.cv t.cv) μ
 | .error e=> .panic (gH e) μ
def bU (d:List UInt8):Except Int Tok:=if 10<d.length∨iT d=false∨2147483647<cg d then .error 28 else .ok ⟨1,0,Lib.itoa (cg d)⟩
theorem BS {n:Nat}{e:Int}:below n (gH e)=true:=rfl
theorem PQ {d:List UInt8}(hd:d.length≤1000000):(ev E).call 192 [LV.str d] μ=some (Qz μ (bU d)):=by
 refine aO ?_
 rw[RI,FX hd,uB]
 have hr:=iK d
 simp only[ad,aq,aa,am,ao,aj,ae,ak,az,cond_true,cond_false,Bool.not_true,Bool.not_false,av,au,ar,mh,jM,d7,BS]
 by_cases h1:10<d.length
 ·have e1:decide ((10:Int)<(d.length:Int))=true:=by simp;omega
  have e2:bU d= .error 28:=by simp[bU,h1]
  rw[e1,e2,cond_true]
  rfl
 ·have e1:decide ((10:Int)<(d.length:Int))=false:=by simp;omega
  rw[e1,cond_false,Hf,aa]
  cases h2:iT d with
  |false=>
   have e2:bU d= .error 28:=by simp[bU,h2]
   rw[e2];rfl
  |true=>
   simp only[ad,aq,aa,am,ao,aj,ae,ak,az,cond_true,cond_false,Bool.not_true,Bool.not_false,av,au,ar]
   by_cases h3:2147483647<cg d
   ·have e2:bU d= .error 28:=by simp[bU,h3]
    have e3:decide (2147483647<cg d)=true:=by simp[h3]
    rw[e2,e3];rfl
   ·have e2:bU d= .ok ⟨1,0,Lib.itoa (cg d)⟩:=by simp[bU,h1,h2,h3]
    have e3:decide (2147483647<cg d)=false:=by simp[h3]
    rw[e2,e3,cond_false,Ny hr.1 hr.2]
    rfl
end
end Go.Abs
