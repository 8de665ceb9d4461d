/-
  The statement TokensFixedCardSaid, proved; part 5 of 7 of its proof.
  Normal forms. Printed by a program.
  What the scanner's small functions answer.
  Classes of characters.
  What characters are, and whether a text is in a list.
  strings.ToUpper on bytes below 128: byte by byte.
  Words between dots, exponents, numbers.
  Exponents, INTEGER constants, numbers.
-/
import Derived.Test.YtfcjjankfjaapaaGreatDoorF2
import Derived.Test.YtfcjjankfjaapaaGreatDoorF3
import Derived.Lib.MapLaws
import Derived.Lib.TrimAscii
import Derived.Lib.Case
set_option linter.all false
set_option linter.unusedSectionVars false
set_option linter.unusedVariables false
set_option maxRecDepth 1000000
namespace Go.Abs
open Go Go.Proofs
noncomputable section
variable (ρ:Rho)
def Ki (x0:List UInt8):SegD:=⟨H8,[(2,0)],cA 8 [1,1],mS [(0,LV.str x0)] []⟩
def L4 (x0:List UInt8)(μ:Mu):=(Ki x0).seg ρ μ
def qW (x2:Bool)(μ:Mu):St:= .ret (mS [(2,LV.bool x2)] []) μ
def Kj (x0:List UInt8):SegD:=⟨H8,[(2,0)],cA 8 [1,1,1],mS [(0,LV.str x0)] []⟩
def L5 (x0:List UInt8)(μ:Mu):=(Kj x0).seg ρ μ
def iC (x2:Bool)(μ:Mu):St:= .ret (mS [(2,LV.bool x2)] []) μ
def Gx (x3:List CV)(x6:List UInt8)(x8:List CV)(x10:Int):SegD:=⟨H8,[(2,0)],cA 8 [1,1,1,1,1,1,1],mS [(3,LV.cv (CV.sl x3)),(6,LV.str x6),(8,LV.cv (CV.sl x8)),(10,LV.int .i64 x10)] []⟩
def Ke (x3:List CV)(x6:List UInt8)(x8:List CV)(x10:Int)(μ:Mu):=(Gx x3 x6 x8 x10).seg ρ μ
def nQ (x2:Bool)(μ:Mu):St:= .ret (mS [(2,LV.bool x2)] []) μ
def Gy (x3:List CV)(x6:List UInt8)(x8:List CV):SegD:=⟨H8,[(2,0)],cA 8 [1,1,1,1,1,1,1,1],mS [(3,LV.cv (CV.sl x3)),(6,LV.str x6),(8,LV.cv (CV.sl x8))] []⟩
def Kf (x3:List CV)(x6:List UInt8)(x8:List CV)(μ:Mu):=(Gy x3 x6 x8).seg ρ μ
def yw (x3:List CV)(x6:List UInt8)(x8:List CV)(x12:Int):SegD:=⟨H8,[(3,2),(6,0)],cA 8 [1,1,1,1,1,1,1,1,0,1,0,0],mS [(3,LV.cv (CV.sl x3)),(6,LV.str x6),(8,LV.cv (CV.sl x8)),(12,LV.int .i64 x12)] []⟩
def kM (x3:List CV)(x6:List UInt8)(x8:List CV)(x12:Int)(μ:Mu):=(yw x3 x6 x8 x12).loop ρ μ
def nV (x2:Bool)(μ:Mu):St:= .ret (mS [(2,LV.bool x2)] []) μ
def ls (x3:List CV)(x6:List UInt8)(μ:Mu):St:= .exit 0 (mS [(3,LV.cv (CV.sl x3)),(6,LV.str x6)] []) μ
def gj (x2:Bool)(μ:Mu):St:= .ret (mS [(2,LV.bool x2)] []) μ
def sA (pv:CV)(μ:Mu):St:= .panic pv (mS [] []) μ
def qX (pv:CV)(μ:Mu):St:= .panic pv (mS [] []) μ
def KS (pv:CV)(μ:Mu):St:= .panic pv (mS [] []) μ
theorem vx (x3 x6 x8 x12 μ):(yw x3 x6 x8 x12).rK ρ μ=
 cond (decide (x12 < (List.length x8 : Int))) (
 opt (cE x8 (IntKind.wrap .i64 (x12-(1:Int)))) fun c52=>
 d8 (LV.cv c52) fun n53 n54 s55=>
 cond (decide (n54 = (6 : Int))) (
 opt (cE x8 x12) fun c56=>
 d8 (LV.cv c56) fun n57 n58 s59=>
 cond (decide (n58 = (6 : Int))) (
 opt (cE x8 (IntKind.wrap .i64 (x12-(1:Int)))) fun c60=>
 d8 (LV.cv c60) fun n61 n62 s63=>
 cond (decide (n61 = (1 : Int))) (
 opt (cE x8 x12) fun c64=>
 d8 (LV.cv c64) fun n65 n66 s67=>
 cond (decide (n65 = (1 : Int))) (
 some (nV true μ)) (
 kM ρ x3 x6 x8 (IntKind.wrap .i64 (x12+(1:Int))) μ)) (
 kM ρ x3 x6 x8 (IntKind.wrap .i64 (x12+(1:Int))) μ)) (
 kM ρ x3 x6 x8 (IntKind.wrap .i64 (x12+(1:Int))) μ)) (
 kM ρ x3 x6 x8 (IntKind.wrap .i64 (x12+(1:Int))) μ)) (
 some (ls x3 x6 μ)):=by kernel_rfl
theorem EQ (x2 μ):kS ρ H8 [.block 0,.seq (cA 8 [1,1,1,1,1,1,1,1,1])] [(2,0)] (nV x2 μ)=
 some (gj x2 μ):=by kernel_rfl
theorem ER (x3 x6 μ):kS ρ H8 [.block 0,.seq (cA 8 [1,1,1,1,1,1,1,1,1])] [(2,0)] (ls x3 x6 μ)=
 callK (ρ.call 31 [LV.str x6] μ) (fun v68 μ69 =>
 opt (aS v68) fun xs72=>
 opt (az xs72) fun q73=>
 opt (aL q73.1) fun s74=>
 opt (az q73.2) fun q75=>
 opt (aH .i64 q75.1) fun n76=>
 opt (aO q75.2) fun u77=>
 callK (ρ.call 24 [LV.str x6] μ69) (fun v78 μ79 =>
 opt (aS v78) fun xs82=>
 opt (az xs82) fun q83=>
 opt (cg q83.1) fun l84=>
 opt (az q83.2) fun q85=>
 opt (aH .i64 q85.1) fun n86=>
 opt (az q85.2) fun q87=>
 opt (aH .i64 q87.1) fun n88=>
 opt (aO q87.2) fun u89=>
 cond (decide (n76 = (0 : Int))) (
 cond (decide (s74 = x6)) (
 cond (decide (n88 = (0 : Int))) (
 callK (ρ.call 19 [LV.cv (CV.sl l84), LV.cv (CV.sl x3)] μ79) (fun v90 μ91 =>
 opt (aP v90) fun b94=>
 some (gj b94 μ91)) (pX sA)) (
 some (gj false μ79))) (
 some (gj false μ79))) (
 some (gj false μ79))) (pX sA)) (pX sA):=by kernel_rfl
theorem LL (x3 x6 x8 μ):(Gy x3 x6 x8).sK ρ μ=
 opt (kM ρ x3 x6 x8 (1:Int) μ) (kS ρ H8 [.block 0,.seq (cA 8 [1,1,1,1,1,1,1,1,1])] [(2,0)]):=by kernel_rfl
theorem EB (x2 μ):kS ρ H8 [] [(2,0)] (gj x2 μ)=
 some (nQ x2 μ):=by kernel_rfl
theorem LK (x3 x6 x8 x10 μ):(Gx x3 x6 x8 x10).sK ρ μ=
 cond (!decide (x10 = (0 : Int))) (
 some (nQ true μ)) (
 opt (Kf ρ x3 x6 x8 μ) (kS ρ H8 [] [(2,0)])):=by kernel_rfl
theorem EA (x2 μ):kS ρ H8 [] [(2,0)] (nQ x2 μ)=
 some (iC x2 μ):=by kernel_rfl
theorem M6 (x0 μ):(Kj x0).sK ρ μ=
 callK (ρ.call 24 [LV.str x0] μ) (fun v11 μ12 =>
 opt (aS v11) fun xs15=>
 opt (az xs15) fun q16=>
 opt (cg q16.1) fun l17=>
 opt (az q16.2) fun q18=>
 opt (aH .i64 q18.1) fun n19=>
 opt (az q18.2) fun q20=>
 opt (aH .i64 q20.1) fun n21=>
 opt (aO q20.2) fun u22=>
 callK (ρ.call 31 [LV.str x0] μ12) (fun v23 μ24 =>
 opt (aS v23) fun xs27=>
 opt (az xs27) fun q28=>
 opt (aL q28.1) fun s29=>
 opt (az q28.2) fun q30=>
 opt (aH .i64 q30.1) fun n31=>
 opt (aO q30.2) fun u32=>
 callK (ρ.call 32 [LV.str x0] μ24) (fun v33 μ34 =>
 opt (aS v33) fun xs37=>
 opt (az xs37) fun q38=>
 opt (cg q38.1) fun l39=>
 opt (az q38.2) fun q40=>
 opt (aH .i64 q40.1) fun n41=>
 opt (az q40.2) fun q42=>
 opt (aH .i64 q42.1) fun n43=>
 opt (az q42.2) fun q44=>
 opt (aL q44.1) fun s45=>
 opt (aO q44.2) fun u46=>
 cond (!decide (n21 = n43)) (
 some (iC false μ34)) (
 cond (!decide (n19 = n41)) (
 some (iC false μ34)) (
 callK (ρ.call 19 [LV.cv (CV.sl l17), LV.cv (CV.sl l39)] μ34) (fun v47 μ48 =>
 opt (aP v47) fun b51=>
 cond (!b51) (
 some (iC false μ48)) (
 cond (!decide (n31 = n43)) (
 some (iC false μ48)) (
 cond (!decide (s29 = s45)) (
 some (iC false μ48)) (
 opt (Ke ρ l17 s29 l39 n43 μ48) (kS ρ H8 [] [(2,0)]))))) (pX qX)))) (pX qX)) (pX qX)) (pX qX):=by kernel_rfl
theorem HD (x2 μ):kS ρ H8 [] [(2,0)] (iC x2 μ)=
 some (qW x2 μ):=by kernel_rfl
theorem M5 (x0 μ):(Ki x0).sK ρ μ=
 callK (ρ.call 16 [LV.str x0] μ) (fun v6 μ7 =>
 opt (aP v6) fun b10=>
 cond (!b10) (
 some (qW true μ7)) (
 opt (L5 ρ x0 μ7) (kS ρ H8 [] [(2,0)]))) (pX KS):=by kernel_rfl
theorem HC (x2 μ):kB ρ 8 H8 [] (qW x2 μ)=
 some (.ret (LV.bool x2) μ):=by kernel_rfl
theorem nf8 (a μ):aG E ρ 8 [LV.str a] μ=
 callK (ρ.call 11 [] μ) (fun v1 μ2 =>
 opt (aP v1) fun b5=>
 cond (!b5) (
 some (.ret (LV.bool false) μ2)) (
 opt (L4 ρ a μ2) (kB ρ 8 H8 []))) pP:=by kernel_rfl
theorem OR (a μ):aG E ρ 16 [LV.str a] μ=
 cond (decide ((List.length a : Int) ≤ (200 : Int))) (
 some (.ret (LV.bool true) μ)) (
 cond (decide ((1320 : Int) < (List.length a : Int))) (
 some (.ret (LV.bool (decide ((List.length a:Int)≤(1340:Int)))) μ)) (
 some (.ret (LV.bool false) μ))):=by kernel_rfl
def Gj (x0 x1:List CV):SegD:=⟨H19,[(4,0)],cA 19 [1,1],mS [(0,LV.cv (CV.sl x0)),(1,LV.cv (CV.sl x1))] []⟩
def J6 (x0 x1:List CV)(μ:Mu):=(Gj x0 x1).seg ρ μ
def Gz (x0 x1:List CV)(x5:Int):SegD:=⟨H19,[],cA 19 [1,1,0,1,0,0],mS [(0,LV.cv (CV.sl x0)),(1,LV.cv (CV.sl x1)),(5,LV.int .i64 x5)] []⟩
def DB (x0 x1:List CV)(x5:Int)(μ:Mu):=(Gz x0 x1 x5).loop ρ μ
def sB (x4:Bool)(μ:Mu):St:= .ret (mS [(4,LV.bool x4)] []) μ
def sC (μ:Mu):St:= .exit 0 (mS [] []) μ
def nK (x4:Bool)(μ:Mu):St:= .ret (mS [(4,LV.bool x4)] []) μ
theorem C1 (x0 x1 x5 μ):(Gz x0 x1 x5).rK ρ μ=
 cond (decide (x5 < (List.length x0 : Int))) (
 opt (cE x0 x5) fun c1=>
 d8 (LV.cv c1) fun n2 n3 s4=>
 opt (cE x1 x5) fun c5=>
 d8 (LV.cv c5) fun n6 n7 s8=>
 cond (!(decide (n2 = n6) && (decide (n3 = n7) && (decide (s4 = s8) && true)))) (
 some (sB false μ)) (
 DB ρ x0 x1 (IntKind.wrap .i64 (x5+(1:Int))) μ)) (
 some (sC μ)):=by kernel_rfl
theorem EC (x4 μ):kS ρ H19 [.block 0,.seq (cA 19 [1,1,1])] [(4,0)] (sB x4 μ)=
 some (nK x4 μ):=by kernel_rfl
theorem ED (μ):kS ρ H19 [.block 0,.seq (cA 19 [1,1,1])] [(4,0)] (sC μ)=
 some (nK true μ):=by kernel_rfl
theorem LB (x0 x1 μ):(Gj x0 x1).sK ρ μ=
 opt (DB ρ x0 x1 (0:Int) μ) (kS ρ H19 [.block 0,.seq (cA 19 [1,1,1])] [(4,0)]):=by kernel_rfl
theorem Ek (x4 μ):kB ρ 19 H19 [] (nK x4 μ)=
 some (.ret (LV.bool x4) μ):=by kernel_rfl
theorem OS (a b μ):aG E ρ 19 [LV.cv (CV.sl a),LV.cv (CV.sl b)] μ=
 cond (!decide ((List.length a : Int) = (List.length b : Int))) (
 some (.ret (LV.bool false) μ)) (
 opt (J6 ρ a b μ) (kB ρ 19 H19 [])):=by kernel_rfl
theorem OT (a b c μ):aG E ρ 23 [LV.int .i64 a,LV.int .i64 b,LV.int .i64 c] μ=
 cond (decide (a < b)) (
 some (.ret (LV.bool false) μ)) (
 some (.ret (LV.bool (!(decide (c<a)))) μ)):=by kernel_rfl
theorem OU (a μ):aG E ρ 24 [LV.str a] μ=
 callK (ρ.call 57 [LV.str a, LV.bool true] μ) (fun v1 μ2 =>
 opt (aS v1) fun xs5=>
 opt (az xs5) fun q6=>
 opt (cg q6.1) fun l7=>
 opt (az q6.2) fun q8=>
 opt (aH .i64 q8.1) fun n9=>
 opt (az q8.2) fun q10=>
 opt (aH .i64 q10.1) fun n11=>
 opt (aO q10.2) fun u12=>
 some (.ret (LV.ltup [LV.cv (CV.sl l7),LV.int .i64 n9,LV.int .i64 n11]) μ2)) pP:=by kernel_rfl
def Gk (x0:List UInt8)(x4:CV):SegD:=⟨H31,[(2,0),(3,0)],cA 31 [1,1,1],mS [(0,LV.str x0),(4,LV.cv x4)] []⟩
def J7 (x0:List UInt8)(x4:CV)(μ:Mu):=(Gk x0 x4).seg ρ μ
def GA (x0:List UInt8)(x4:CV)(x7:List CV)(x19 x20:Int):SegD:=⟨H31,[(7,1)],cA 31 [1,1,1,1,0,1,0,0],mS [(0,LV.str x0),(4,LV.cv x4),(7,LV.osl x7),(19,LV.int .i64 x19),(20,LV.int .i64 x20)] []⟩
def tw (x0:List UInt8)(x4:CV)(x7:List CV)(x19 x20:Int)(μ:Mu):=(GA x0 x4 x7 x19 x20).loop ρ μ
def Ip (pv:CV)(μ:Mu):St:= .panic pv (mS [] []) μ
def sD (x7:List CV)(μ:Mu):St:= .exit 0 (mS [(7,LV.osl x7)] []) μ
def sf (x2:List UInt8)(x3:Int)(μ:Mu):St:= .ret (mS [(2,LV.str x2),(3,LV.int .i64 x3)] []) μ
theorem C2 (x0 x4 x7 x19 x20 μ):(GA x0 x4 x7 x19 x20).rK ρ μ=
 cond (decide (x20 < x19)) (
 opt (a7 x0 x20) fun y13=>
 cond (!decide ((y13.toNat : Int) = (32 : Int))) (
 opt (a7 x0 x20) fun y14=>
 ay (dQ 1 x7 [CV.int .u8 (y14.toNat : Int)]) (
 tw ρ x0 x4 (x7++[CV.int .u8 (y14.toNat:Int)]) x19 (IntKind.wrap .i64 (x20+(1:Int))) μ)) (
 opt (lA (LV.cv x4)) fun b15=>
 ay (!b15) (
 opt (iI (LV.cv (ny x4))) fun cs16=>
 opt (az cs16) fun q17=>
 opt (aL (LV.cv q17.1)) fun s18=>
 opt (az q17.2) fun q19=>
 opt (aP (LV.cv q19.1)) fun b20=>
 opt (az q19.2) fun q21=>
 opt (cg (LV.cv q21.1)) fun l22=>
 opt (az q21.2) fun q23=>
 opt (cg (LV.cv q23.1)) fun l24=>
 opt (aO q23.2) fun u25=>
 callK (ρ.call 79 [LV.cv (CV.sl l24), LV.int .i64 x20] μ) (fun v26 μ27 =>
 opt (aP v26) fun b30=>
 cond (b30) (
 opt (a7 x0 x20) fun y31=>
 ay (dQ 1 x7 [CV.int .u8 (y31.toNat : Int)]) (
 tw ρ x0 x4 (x7++[CV.int .u8 (y31.toNat:Int)]) x19 (IntKind.wrap .i64 (x20+(1:Int))) μ27)) (
 tw ρ x0 x4 x7 x19 (IntKind.wrap .i64 (x20+(1:Int))) μ27)) (pX Ip)))) (
 some (sD x7 μ)):=by kernel_rfl
theorem EE (x7 μ):kS ρ H31 [.block 0,.seq (cA 31 [1,1,1,1,1])] [(2,0),(3,0)] (sD x7 μ)=
 opt (bb x7) fun s32=>
 some (sf s32 (0:Int) μ):=by kernel_rfl
theorem LC (x0 x4 μ):(Gk x0 x4).sK ρ μ=
 opt (tw ρ x0 x4 [] (List.length x0:Int) (0:Int) μ) (kS ρ H31 [.block 0,.seq (cA 31 [1,1,1,1,1])] [(2,0),(3,0)]):=by kernel_rfl
theorem El (x2 x3 μ):kB ρ 31 H31 [] (sf x2 x3 μ)=
 some (.ret (LV.ltup [LV.str x2,LV.int .i64 x3]) μ):=by kernel_rfl
theorem OV (a μ):aG E ρ 31 [LV.str a] μ=
 callK (ρ.call 78 [LV.str a, LV.bool true] μ) (fun v1 μ2 =>
 opt (aS v1) fun xs5=>
 opt (az xs5) fun q6=>
 opt (dw q6.1) fun c7=>
 opt (az q6.2) fun q8=>
 opt (aH .i64 q8.1) fun n9=>
 opt (az q8.2) fun q10=>
 opt (aH .i64 q10.1) fun n11=>
 opt (aO q10.2) fun u12=>
 cond (!decide (n11 = (0 : Int))) (
 some (.ret (LV.ltup [LV.str ([]:List UInt8),LV.int .i64 n11]) μ2)) (
 opt (J7 ρ a c7 μ2) (kB ρ 31 H31 []))) pP:=by kernel_rfl
def Gl (x0:List UInt8):SegD:=⟨H32,[(2,2),(3,0),(4,0),(5,0)],cA 32 [1,1],mS [(0,LV.str x0)] []⟩
def wZ (x0:List UInt8)(μ:Mu):=(Gl x0).seg ρ μ
def GB (x0:List UInt8)(x7:List CV)(x8:List UInt8)(x9:Int):SegD:=⟨H32,[(7,1),(8,0)],cA 32 [1,1,1,1,1,0,0,0],mS [(0,LV.str x0),(7,LV.osl x7),(8,LV.str x8),(9,LV.int .i64 x9)] []⟩
def lP (x0:List UInt8)(x7:List CV)(x8:List UInt8)(x9:Int)(μ:Mu):=(GB x0 x7 x8 x9).loop ρ μ
def Cd (x0:List UInt8)(x7:List CV)(x8:List UInt8)(x9:Int):SegD:=⟨H32,[(0,0),(7,1),(8,0),(9,0)],cA 32 [1,1,1,1,1,0,0,0,1,0,1],mS [(0,LV.str x0),(7,LV.osl x7),(8,LV.str x8),(9,LV.int .i64 x9)] []⟩
def xA (x0:List UInt8)(x7:List CV)(x8:List UInt8)(x9:Int)(μ:Mu):=(Cd x0 x7 x8 x9).seg ρ μ
def Ce (x0:List UInt8)(x7:List CV)(x8:List UInt8)(x9:Int)(x10:Bool):SegD:=⟨H32,[(0,0),(7,1),(8,0),(9,0)],cA 32 [1,1,1,1,1,0,0,0,1,0,1,1,1],mS [(0,LV.str x0),(7,LV.osl x7),(8,LV.str x8),(9,LV.int .i64 x9),(10,LV.bool x10)] []⟩
def o7 (x0:List UInt8)(x7:List CV)(x8:List UInt8)(x9:Int)(x10:Bool)(μ:Mu):=(Ce x0 x7 x8 x9 x10).seg ρ μ
def lX (x2:List CV)(x3 x4:Int)(x5:List UInt8)(μ:Mu):St:= .ret (mS [(2,LV.cv (CV.sl x2)),(3,LV.int .i64 x3),(4,LV.int .i64 x4),(5,LV.str x5)] []) μ
def Cf (x0:List UInt8)(x7:List CV)(x8:List UInt8)(x9 x12 x13:Int):SegD:=⟨H32,[(0,0),(7,1),(8,0),(9,0)],cA 32 [1,1,1,1,1,0,0,0,1,0,1,1,1,0,1,0,1,1,0,1],mS [(0,LV.str x0),(7,LV.osl x7),(8,LV.str x8),(9,LV.int .i64 x9),(12,LV.int .i64 x12),(13,LV.int .i64 x13)] []⟩
def Fz (x0:List UInt8)(x7:List CV)(x8:List UInt8)(x9 x12 x13:Int)(μ:Mu):=(Cf x0 x7 x8 x9 x12 x13).seg ρ μ
def CG (x0:List UInt8)(x7:List CV)(x8:List UInt8)(x9 x12 x13:Int):SegD:=⟨H32,[(0,0),(7,1),(8,0),(12,0),(13,0)],cA 32 [1,1,1,1,1,0,0,0,1,0,1,1,1,0,1,0,1,1,0,1,1,0,0,0],mS [(0,LV.str x0),(7,LV.osl x7),(8,LV.str x8),(9,LV.int .i64 x9),(12,LV.int .i64 x12),(13,LV.int .i64 x13)] []⟩
def tx (x0:List UInt8)(x7:List CV)(x8:List UInt8)(x9 x12 x13:Int)(μ:Mu):=(CG x0 x7 x8 x9 x12 x13).loop ρ μ
def me (x0:List UInt8)(x7:List CV)(x8:List UInt8)(x12 x13:Int)(μ:Mu):St:= .exit 2 (mS [(0,LV.str x0),(7,LV.osl x7),(8,LV.str x8),(12,LV.int .i64 x12),(13,LV.int .i64 x13)] []) μ
def pt (x0:List UInt8)(x7:List CV)(x8:List UInt8)(x9:Int)(μ:Mu):St:= .exit 1 (mS [(0,LV.str x0),(7,LV.osl x7),(8,LV.str x8),(9,LV.int .i64 x9)] []) μ
def FU (pv:CV)(μ:Mu):St:= .panic pv (mS [] []) μ
def lY (x0:List UInt8)(x7:List CV)(x8:List UInt8)(x9:Int)(μ:Mu):St:= .exit 1 (mS [(0,LV.str x0),(7,LV.osl x7),(8,LV.str x8),(9,LV.int .i64 x9)] []) μ
def vQ (pv:CV)(μ:Mu):St:= .panic pv (mS [] []) μ
def Cg (x0:List UInt8)(x7:List CV)(x8:List UInt8)(x9:Int):SegD:=⟨H32,[(0,0),(7,1),(8,0),(9,0)],cA 32 [1,1,1,1,1,0,0,0,1,0,1,1,1,1],mS [(0,LV.str x0),(7,LV.osl x7),(8,LV.str x8),(9,LV.int .i64 x9)] []⟩
def mV (x0:List UInt8)(x7:List CV)(x8:List UInt8)(x9:Int)(μ:Mu):=(Cg x0 x7 x8 x9).seg ρ μ
def ft (x2:List CV)(x3 x4:Int)(x5:List UInt8)(μ:Mu):St:= .ret (mS [(2,LV.cv (CV.sl x2)),(3,LV.int .i64 x3),(4,LV.int .i64 x4),(5,LV.str x5)] []) μ
def Ch (x0:List UInt8)(x7:List CV)(x8:List UInt8)(x9 o0_0 o0_1:Int)(o0_2:List UInt8)(o0_3 o0_4:Int):SegD:=⟨H32,[(0,0),(7,1),(8,0),(9,0)],cA 32 [1,1,1,1,1,0,0,0,1,0,1,1,1,1,0,1,0,1,1],mS [(0,LV.str x0),(7,LV.osl x7),(8,LV.str x8),(9,LV.int .i64 x9),(15,LV.loc 0 0)] [Ob.cells [LV.int .i64 o0_0,LV.int .i64 o0_1,LV.str o0_2,LV.int .i64 o0_3,LV.int .i64 o0_4]]⟩
def tr (x0:List UInt8)(x7:List CV)(x8:List UInt8)(x9 o0_0 o0_1:Int)(o0_2:List UInt8)(o0_3 o0_4:Int)(μ:Mu):=(Ch x0 x7 x8 x9 o0_0 o0_1 o0_2 o0_3 o0_4).seg ρ μ
def py (x0:List UInt8)(x7:List CV)(x8:List UInt8)(x9:Int)(μ:Mu):St:= .exit 1 (mS [(0,LV.str x0),(7,LV.osl x7),(8,LV.str x8),(9,LV.int .i64 x9)] []) μ
def lZ (x0:List UInt8)(x7:List CV)(x8:List UInt8)(x9:Int)(μ:Mu):St:= .exit 1 (mS [(0,LV.str x0),(7,LV.osl x7),(8,LV.str x8),(9,LV.int .i64 x9)] []) μ
def pw (pv:CV)(μ:Mu):St:= .panic pv (mS [] []) μ
def Ci (x0:List UInt8)(x7:List CV)(x8:List UInt8)(x9:Int):SegD:=⟨H32,[(0,0),(7,1),(8,0),(9,0)],cA 32 [1,1,1,1,1,0,0,0,1,0,1,1,1,1,1],mS [(0,LV.str x0),(7,LV.osl x7),(8,LV.str x8),(9,LV.int .i64 x9)] []⟩
def FA (x0:List UInt8)(x7:List CV)(x8:List UInt8)(x9:Int)(μ:Mu):=(Ci x0 x7 x8 x9).seg ρ μ
def pz (x2:List CV)(x3 x4:Int)(x5:List UInt8)(μ:Mu):St:= .ret (mS [(2,LV.cv (CV.sl x2)),(3,LV.int .i64 x3),(4,LV.int .i64 x4),(5,LV.str x5)] []) μ
def Cj (x0:List UInt8)(x7:List CV)(x8 x16:List UInt8)(x17:List CV)(o0_0 o0_1:Int)(o0_2:List UInt8)(o0_3 o0_4:Int):SegD:=⟨H32,[(0,0),(7,1),(8,0),(9,0)],cA 32 [1,1,1,1,1,0,0,0,1,0,1,1,1,1,1,1,1,1],mS [(0,LV.str x0),(7,LV.osl x7),(8,LV.str x8),(16,LV.str x16),(17,LV.cv (CV.sl x17)),(18,LV.loc 0 0)] [Ob.cells [LV.int .i64 o0_0,LV.int .i64 o0_1,LV.str o0_2,LV.int .i64 o0_3,LV.int .i64 o0_4]]⟩
def FB (x0:List UInt8)(x7:List CV)(x8 x16:List UInt8)(x17:List CV)(o0_0 o0_1:Int)(o0_2:List UInt8)(o0_3 o0_4:Int)(μ:Mu):=(Cj x0 x7 x8 x16 x17 o0_0 o0_1 o0_2 o0_3 o0_4).seg ρ μ
def pB (x0:List UInt8)(x7:List CV)(x8:List UInt8)(x9:Int)(μ:Mu):St:= .norm (mS [(0,LV.str x0),(7,LV.osl x7),(8,LV.str x8),(9,LV.int .i64 x9)] []) μ
def pA (x0:List UInt8)(x7:List CV)(x8:List UInt8)(x9:Int)(μ:Mu):St:= .norm (mS [(0,LV.str x0),(7,LV.osl x7),(8,LV.str x8),(9,LV.int .i64 x9)] []) μ
def vR (pv:CV)(μ:Mu):St:= .panic pv (mS [] []) μ
def px (x0:List UInt8)(x7:List CV)(x8:List UInt8)(x9:Int)(μ:Mu):St:= .norm (mS [(0,LV.str x0),(7,LV.osl x7),(8,LV.str x8),(9,LV.int .i64 x9)] []) μ
def pr (x0:List UInt8)(x7:List CV)(x8:List UInt8)(x9:Int)(μ:Mu):St:= .norm (mS [(0,LV.str x0),(7,LV.osl x7),(8,LV.str x8),(9,LV.int .i64 x9)] []) μ
def lU (x2:List CV)(x3 x4:Int)(x5:List UInt8)(μ:Mu):St:= .ret (mS [(2,LV.cv (CV.sl x2)),(3,LV.int .i64 x3),(4,LV.int .i64 x4),(5,LV.str x5)] []) μ
def lV (x0:List UInt8)(x7:List CV)(x8:List UInt8)(x9:Int)(μ:Mu):St:= .exit 1 (mS [(0,LV.str x0),(7,LV.osl x7),(8,LV.str x8),(9,LV.int .i64 x9)] []) μ
def FT (pv:CV)(μ:Mu):St:= .panic pv (mS [] []) μ
def lW (x0:List UInt8)(x7:List CV)(x8:List UInt8)(x9:Int)(μ:Mu):St:= .norm (mS [(0,LV.str x0),(7,LV.osl x7),(8,LV.str x8),(9,LV.int .i64 x9)] []) μ
def nR (x2:List CV)(x3 x4:Int)(x5:List UInt8)(μ:Mu):St:= .ret (mS [(2,LV.cv (CV.sl x2)),(3,LV.int .i64 x3),(4,LV.int .i64 x4),(5,LV.str x5)] []) μ
def sE (x7:List CV)(x8:List UInt8)(μ:Mu):St:= .exit 0 (mS [(7,LV.osl x7),(8,LV.str x8)] []) μ
def iq (x2:List CV)(x3 x4:Int)(x5:List UInt8)(μ:Mu):St:= .ret (mS [(2,LV.cv (CV.sl x2)),(3,LV.int .i64 x3),(4,LV.int .i64 x4),(5,LV.str x5)] []) μ
def Ck (x7:List CV)(x8:List UInt8):SegD:=⟨H32,[(2,2),(3,0),(4,0),(5,0)],cA 32 [1,1,1,1,1,1,1],mS [(7,LV.osl x7),(8,LV.str x8)] []⟩
def FC (x7:List CV)(x8:List UInt8)(μ:Mu):=(Ck x7 x8).seg ρ μ
def pC (x2:List CV)(x3 x4:Int)(x5:List UInt8)(μ:Mu):St:= .ret (mS [(2,LV.cv (CV.sl x2)),(3,LV.int .i64 x3),(4,LV.int .i64 x4),(5,LV.str x5)] []) μ
theorem zl (x0 x7 x8 x9 x12 x13 μ):(CG x0 x7 x8 x9 x12 x13).rK ρ μ=
 cond (decide (x9 < x13)) (
 opt (a7 x0 x9) fun y44=>
 cond (!decide ((y44.toNat : Int) = (32 : Int))) (
 opt (bZ x0 x9 (IntKind.wrap .i64 (x9+(1:Int)))) fun s45=>
 ay (bf (List.length x8 + List.length s45)) (
 tx ρ x0 x7 (x8++s45) (IntKind.wrap .i64 (x9+(1:Int))) x12 x13 μ)) (
 tx ρ x0 x7 x8 (IntKind.wrap .i64 (x9+(1:Int))) x12 x13 μ)) (
 some (me x0 x7 x8 x12 x13 μ)):=by kernel_rfl
theorem Bx (x0 x7 x8 x12 x13 μ):kS ρ H32 [.block 2,.seq (cA 32 [1,1,1,1,1,0,0,0,1,0,1,1,1,0,1,0,1,1,0,1,1,1])] [(0,0),(7,1),(8,0),(9,0)] (me x0 x7 x8 x12 x13 μ)=
 opt (bZ x0 x13 (IntKind.wrap .i64 (x13+x12))) fun s46=>
 ay (bf (List.length x8 + List.length s46)) (
 some (pt x0 x7 (x8++s46) (IntKind.wrap .i64 (x13+x12)) μ)):=by kernel_rfl
theorem Jh (x0 x7 x8 x9 x12 x13 μ):(Cf x0 x7 x8 x9 x12 x13).sK ρ μ=
 opt (bZ x0 x13 (IntKind.wrap .i64 (x13+x12))) fun s38=>
 callK (ρ.call 42 [LV.str s38] μ) (fun v39 μ40 =>
 opt (aL v39) fun s43=>
 ay (dQ 3 x7 [CV.agg [CV.int .i64 (1 : Int), CV.int .i64 (6 : Int), CV.str s43]]) (
 opt (tx ρ x0 (x7++[CV.agg [CV.int .i64 (1:Int),CV.int .i64 (6:Int),CV.str s43]]) x8 x9 x12 x13 μ40) (kS ρ H32 [.block 2,.seq (cA 32 [1,1,1,1,1,0,0,0,1,0,1,1,1,0,1,0,1,1,0,1,1,1])] [(0,0),(7,1),(8,0),(9,0)]))) (pX FU):=by kernel_rfl
theorem A8 (x0 x7 x8 x9 μ):kS ρ H32 [.seq (cA 32 [1,1,1,1,1,0,0,0,1,0,1,1,1,1])] [(0,0),(7,1),(8,0),(9,0)] (pt x0 x7 x8 x9 μ)=
 some (lY x0 x7 x8 x9 μ):=by kernel_rfl
theorem Ji (x0 x7 x8 x9 o0_0 o0_1 o0_2 o0_3 o0_4 μ):(Ch x0 x7 x8 x9 o0_0 o0_1 o0_2 o0_3 o0_4).sK ρ μ=
 ay (dQ 3 x7 [CV.agg [CV.int .i64 o0_0, CV.int .i64 o0_1, CV.str o0_2]]) (
 opt (bZ x0 x9 o0_3) fun s59=>
 ay (bf (List.length x8 + List.length s59)) (
 some (py x0 (x7++[CV.agg [CV.int .i64 o0_0,CV.int .i64 o0_1,CV.str o0_2]]) (x8++s59) o0_3 μ))):=by kernel_rfl
theorem Bb (x0 x7 x8 x9 μ):kS ρ H32 [.seq (cA 32 [1,1,1,1,1,0,0,0,1,0,1,1,1,1,1])] [(0,0),(7,1),(8,0),(9,0)] (py x0 x7 x8 x9 μ)=
 some (lZ x0 x7 x8 x9 μ):=by kernel_rfl
theorem Jk (x0 x7 x8 x16 x17 o0_0 o0_1 o0_2 o0_3 o0_4 μ):(Cj x0 x7 x8 x16 x17 o0_0 o0_1 o0_2 o0_3 o0_4).sK ρ μ=
 ay (dQ 3 x7 [CV.agg [CV.int .i64 o0_0, CV.int .i64 o0_1, CV.str o0_2]]) (
 opt (bZ x16 (0:Int) o0_3) fun s91=>
 ay (bf (List.length x8 + List.length s91)) (
 opt (cE x17 (IntKind.wrap .i64 (o0_3-(1:Int)))) fun c92=>
 opt (aH .i64 (LV.cv c92)) fun n93=>
 some (pB x0 (x7++[CV.agg [CV.int .i64 o0_0,CV.int .i64 o0_1,CV.str o0_2]]) (x8++s91) (IntKind.wrap .i64 (n93+(1:Int))) μ))):=by kernel_rfl
theorem Be (x0 x7 x8 x9 μ):kS ρ H32 [] [(0,0),(7,1),(8,0),(9,0)] (pB x0 x7 x8 x9 μ)=
 some (pA x0 x7 x8 x9 μ):=by kernel_rfl
theorem Jj (x0 x7 x8 x9 μ):(Ci x0 x7 x8 x9).sK ρ μ=
 callK (ρ.call 82 [LV.str x0, LV.int .i64 x9] μ) (fun v72 μ73 =>
 opt (aS v72) fun xs76=>
 opt (az xs76) fun q77=>
 opt (aL q77.1) fun s78=>
 opt (az q77.2) fun q79=>
 opt (cg q79.1) fun l80=>
 opt (aO q79.2) fun u81=>
 callK (ρ.call 58 [LV.str s78, LV.int .i64 (0 : Int)] μ73) (fun v82 μ83 =>
 qw v82 fun n86 n87 s88 n89 n90=>
 cond (!decide (n90 = (0 : Int))) (
 some (pz [] x9 n90 ([]:List UInt8) μ83)) (
 opt (FB ρ x0 x7 x8 s78 l80 n86 n87 s88 n89 n90 μ83) (kS ρ H32 [] [(0,0),(7,1),(8,0),(9,0)]))) (pX vR)) (pX vR):=by kernel_rfl
theorem Bc (x2 x3 x4 x5 μ):kS ρ H32 [] [(0,0),(7,1),(8,0),(9,0)] (pz x2 x3 x4 x5 μ)=
 some (ft x2 x3 x4 x5 μ):=by kernel_rfl
theorem Bd (x0 x7 x8 x9 μ):kS ρ H32 [] [(0,0),(7,1),(8,0),(9,0)] (pA x0 x7 x8 x9 μ)=
 some (px x0 x7 x8 x9 μ):=by kernel_rfl
theorem zd (x0 x7 x8 x9 μ):(Cg x0 x7 x8 x9).sK ρ μ=
 opt (a7 x0 x9) fun y49=>
 cond (decide ((y49.toNat : Int) = (39 : Int))) (
 callK (ρ.call 81 [LV.str x0, LV.int .i64 x9] μ) (fun v50 μ51 =>
 qw v50 fun n54 n55 s56 n57 n58=>
 cond (!decide (n58 = (0 : Int))) (
 some (ft [] x9 n58 ([]:List UInt8) μ51)) (
 opt (tr ρ x0 x7 x8 x9 n54 n55 s56 n57 n58 μ51) (kS ρ H32 [.seq (cA 32 [1,1,1,1,1,0,0,0,1,0,1,1,1,1,1])] [(0,0),(7,1),(8,0),(9,0)]))) (pX pw)) (
 opt (a7 x0 x9) fun y61=>
 cond (decide ((y61.toNat : Int) = (34 : Int))) (
 callK (ρ.call 81 [LV.str x0, LV.int .i64 x9] μ) (fun v62 μ63 =>
 qw v62 fun n66 n67 s68 n69 n70=>
 cond (!decide (n70 = (0 : Int))) (
 some (ft [] x9 n70 ([]:List UInt8) μ63)) (
 opt (tr ρ x0 x7 x8 x9 n66 n67 s68 n69 n70 μ63) (kS ρ H32 [.seq (cA 32 [1,1,1,1,1,0,0,0,1,0,1,1,1,1,1])] [(0,0),(7,1),(8,0),(9,0)]))) (pX pw)) (
 opt (FA ρ x0 x7 x8 x9 μ) (kS ρ H32 [] [(0,0),(7,1),(8,0),(9,0)]))):=by kernel_rfl
theorem rF (x2 x3 x4 x5 μ):kS ρ H32 [] [(0,0),(7,1),(8,0),(9,0)] (ft x2 x3 x4 x5 μ)=
 some (lX x2 x3 x4 x5 μ):=by kernel_rfl
theorem A9 (x0 x7 x8 x9 μ):kS ρ H32 [] [(0,0),(7,1),(8,0),(9,0)] (lZ x0 x7 x8 x9 μ)=
 some (lY x0 x7 x8 x9 μ):=by kernel_rfl
theorem Ba (x0 x7 x8 x9 μ):kS ρ H32 [] [(0,0),(7,1),(8,0),(9,0)] (px x0 x7 x8 x9 μ)=
 some (pr x0 x7 x8 x9 μ):=by kernel_rfl
theorem zb (x0 x7 x8 x9 x10 μ):(Ce x0 x7 x8 x9 x10).sK ρ μ=
 opt (a7 x0 x9) fun y20=>
 callK (ρ.call 67 [LV.int .u8 (y20.toNat : Int)] μ) (fun v21 μ22 =>
 opt (aP v21) fun b25=>
 cond (b25) (
 cond (x10) (
 callK (ρ.call 80 [LV.str x0, LV.int .i64 x9] μ22) (fun v26 μ27 =>
 opt (aS v26) fun xs30=>
 opt (az xs30) fun q31=>
 opt (aH .i64 q31.1) fun n32=>
 opt (az q31.2) fun q33=>
 opt (aH .i64 q33.1) fun n34=>
 opt (az q33.2) fun q35=>
 opt (aP q35.1) fun b36=>
 opt (aO q35.2) fun u37=>
 cond (b36) (
 cond (decide ((List.length x0 : Int) < IntKind.wrap .i64 (n34 + n32))) (
 some (lX [] x9 (7:Int) ([]:List UInt8) μ27)) (
 opt (Fz ρ x0 x7 x8 x9 n32 n34 μ27) (kS ρ H32 [.seq (cA 32 [1,1,1,1,1,0,0,0,1,0,1,1,1,1])] [(0,0),(7,1),(8,0),(9,0)]))) (
 opt (mV ρ x0 x7 x8 x9 μ27) (kS ρ H32 [] [(0,0),(7,1),(8,0),(9,0)]))) (pX vQ)) (
 opt (mV ρ x0 x7 x8 x9 μ22) (kS ρ H32 [] [(0,0),(7,1),(8,0),(9,0)]))) (
 opt (mV ρ x0 x7 x8 x9 μ22) (kS ρ H32 [] [(0,0),(7,1),(8,0),(9,0)]))) (pX vQ):=by kernel_rfl
theorem A5 (x2 x3 x4 x5 μ):kS ρ H32 [] [(0,0),(7,1),(8,0),(9,0)] (lX x2 x3 x4 x5 μ)=
 some (lU x2 x3 x4 x5 μ):=by kernel_rfl
theorem A6 (x0 x7 x8 x9 μ):kS ρ H32 [] [(0,0),(7,1),(8,0),(9,0)] (lY x0 x7 x8 x9 μ)=
 some (lV x0 x7 x8 x9 μ):=by kernel_rfl
theorem A7 (x0 x7 x8 x9 μ):kS ρ H32 [] [(0,0),(7,1),(8,0),(9,0)] (pr x0 x7 x8 x9 μ)=
 some (lW x0 x7 x8 x9 μ):=by kernel_rfl
theorem Jg (x0 x7 x8 x9 μ):(Cd x0 x7 x8 x9).sK ρ μ=
 cond (decide ((0 : Int) < (List.length x7 : Int))) (
 opt (cE x7 (IntKind.wrap .i64 ((List.length x7:Int) -(1:Int)))) fun c7=>
 d8 (LV.cv c7) fun n8 n9 s10=>
 cond (decide (n8 = (2 : Int))) (
 opt (cE x7 (IntKind.wrap .i64 ((List.length x7:Int) -(1:Int)))) fun c11=>
 d8 (LV.cv c11) fun n12 n13 s14=>
 callK (ρ.call 54 [LV.osl [CV.str ([40] : List UInt8), CV.str ([44] : List UInt8), CV.str ([47] : List UInt8), CV.str ([61] : List UInt8)], LV.str s14] μ) (fun v15 μ16 =>
 opt (aP v15) fun b19=>
 opt (o7 ρ x0 x7 x8 x9 b19 μ16) (kS ρ H32 [] [(0,0),(7,1),(8,0),(9,0)])) (pX FT)) (
 opt (o7 ρ x0 x7 x8 x9 (decide ((List.length x7:Int)=(0:Int))) μ) (kS ρ H32 [] [(0,0),(7,1),(8,0),(9,0)]))) (
 opt (o7 ρ x0 x7 x8 x9 (decide ((List.length x7:Int)=(0:Int))) μ) (kS ρ H32 [] [(0,0),(7,1),(8,0),(9,0)])):=by kernel_rfl
theorem A2 (x2 x3 x4 x5 μ):kR ρ H32 [.block 1] [(7,1),(8,0)] (cA 32 [1,1,1,1,1,0,0,0]) (lU x2 x3 x4 x5 μ)=
 some (nR x2 x3 x4 x5 μ):=by kernel_rfl
theorem A3 (x0 x7 x8 x9 μ):kR ρ H32 [.block 1] [(7,1),(8,0)] (cA 32 [1,1,1,1,1,0,0,0]) (lV x0 x7 x8 x9 μ)=
 lP ρ x0 x7 x8 x9 μ:=by kernel_rfl
theorem A4 (x0 x7 x8 x9 μ):kR ρ H32 [.block 1] [(7,1),(8,0)] (cA 32 [1,1,1,1,1,0,0,0]) (lW x0 x7 x8 x9 μ)=
 lP ρ x0 x7 x8 x9 μ:=by kernel_rfl
theorem vu (x0 x7 x8 x9 μ):(GB x0 x7 x8 x9).rK ρ μ=
 cond (decide (x9 < (List.length x0 : Int))) (
 opt (a7 x0 x9) fun y6=>
 cond (decide ((y6.toNat : Int) = (32 : Int))) (
 lP ρ x0 x7 x8 (IntKind.wrap .i64 (x9+(1:Int))) μ) (
 opt (xA ρ x0 x7 x8 x9 μ) (kR ρ H32 [.block 1] [(7,1),(8,0)] (cA 32 [1,1,1,1,1,0,0,0])))) (
 some (sE x7 x8 μ)):=by kernel_rfl
theorem EF (x2 x3 x4 x5 μ):kS ρ H32 [.block 0,.seq (cA 32 [1,1,1,1,1,1])] [(2,2),(3,0),(4,0),(5,0)] (nR x2 x3 x4 x5 μ)=
 some (iq x2 x3 x4 x5 μ):=by kernel_rfl
theorem Jl (x7 x8 μ):(Ck x7 x8).sK ρ μ=
 some (pC x7 (List.length x7:Int) (0:Int) x8 μ):=by kernel_rfl
theorem Bf (x2 x3 x4 x5 μ):kS ρ H32 [] [(2,2),(3,0),(4,0),(5,0)] (pC x2 x3 x4 x5 μ)=
 some (iq x2 x3 x4 x5 μ):=by kernel_rfl
theorem um (x7 x8 μ):kS ρ H32 [.block 0,.seq (cA 32 [1,1,1,1,1,1])] [(2,2),(3,0),(4,0),(5,0)] (sE x7 x8 μ)=
 cond (decide ((300 : Int) < (List.length x7 : Int))) (
 some (iq [] (0:Int) (8:Int) ([]:List UInt8) μ)) (
 opt (FC ρ x7 x8 μ) (kS ρ H32 [] [(2,2),(3,0),(4,0),(5,0)])):=by kernel_rfl
theorem vt (x0 μ):(Gl x0).sK ρ μ=
 opt (lP ρ x0 [] ([]:List UInt8) (0:Int) μ) (kS ρ H32 [.block 0,.seq (cA 32 [1,1,1,1,1,1])] [(2,2),(3,0),(4,0),(5,0)]):=by kernel_rfl
theorem oE (x2 x3 x4 x5 μ):kB ρ 32 H32 [] (iq x2 x3 x4 x5 μ)=
 some (.ret (LV.ltup [LV.cv (CV.sl x2),LV.int .i64 x3,LV.int .i64 x4,LV.str x5]) μ):=by kernel_rfl
theorem OW (a μ):aG E ρ 32 [LV.str a] μ=
 callK (ρ.call 48 [LV.str a] μ) (fun v1 μ2 =>
 opt (aH .i64 v1) fun n5=>
 cond (!decide (n5 = (0 : Int))) (
 some (.ret (LV.ltup [LV.cv (CV.v (.slice none 0 0)),LV.int .i64 (0:Int),LV.int .i64 n5,LV.str ([]:List UInt8)]) μ2)) (
 opt (wZ ρ a μ2) (kB ρ 32 H32 []))) pP:=by kernel_rfl
def Gm (x0:List UInt8):SegD:=⟨H41,[(4,0)],cA 41 [1,1],mS [(0,LV.str x0)] []⟩
def J8 (x0:List UInt8)(μ:Mu):=(Gm x0).seg ρ μ
def GC (x0:List UInt8)(x5:Int):SegD:=⟨H41,[],cA 41 [1,1,0,1,0,0],mS [(0,LV.str x0),(5,LV.int .i64 x5)] []⟩
def DC (x0:List UInt8)(x5:Int)(μ:Mu):=(GC x0 x5).loop ρ μ
def sF (x4:Bool)(μ:Mu):St:= .ret (mS [(4,LV.bool x4)] []) μ
def Iq (pv:CV)(μ:Mu):St:= .panic pv (mS [] []) μ
def sG (μ:Mu):St:= .exit 0 (mS [] []) μ
def nM (x4:Bool)(μ:Mu):St:= .ret (mS [(4,LV.bool x4)] []) μ
theorem C3 (x0 x5 μ):(GC x0 x5).rK ρ μ=
 cond (decide (x5 < (List.length x0 : Int))) (
 opt (a7 x0 x5) fun y1=>
 callK (ρ.call 23 [LV.int .i64 (IntKind.wrap .i64 (y1.toNat : Int)), LV.int .i64 (32 : Int), LV.int .i64 (126 : Int)] μ) (fun v2 μ3 =>
 opt (aP v2) fun b6=>
 cond (!b6) (
 some (sF false μ3)) (
 DC ρ x0 (IntKind.wrap .i64 (x5+(1:Int))) μ3)) (pX Iq)) (
 some (sG μ)):=by kernel_rfl
theorem EG (x4 μ):kS ρ H41 [.block 0,.seq (cA 41 [1,1,1])] [(4,0)] (sF x4 μ)=
 some (nM x4 μ):=by kernel_rfl
theorem EH (μ):kS ρ H41 [.block 0,.seq (cA 41 [1,1,1])] [(4,0)] (sG μ)=
 some (nM true μ):=by kernel_rfl
theorem LD (x0 μ):(Gm x0).sK ρ μ=
 opt (DC ρ x0 (0:Int) μ) (kS ρ H41 [.block 0,.seq (cA 41 [1,1,1])] [(4,0)]):=by kernel_rfl
theorem Em (x4 μ):kB ρ 41 H41 [] (nM x4 μ)=
 some (.ret (LV.bool x4) μ):=by kernel_rfl
theorem OX (a b μ):aG E ρ 41 [LV.str a,LV.int .i64 b] μ=
 cond (decide (b < (List.length a : Int))) (
 some (.ret (LV.bool false) μ)) (
 opt (J8 ρ a μ) (kB ρ 41 H41 [])):=by kernel_rfl
def GD (x0 x3:List UInt8)(x4:Int):SegD:=⟨H42,[(3,0)],cA 42 [1,1,0,1,0,0],mS [(0,LV.str x0),(3,LV.str x3),(4,LV.int .i64 x4)] []⟩
def w5 (x0 x3:List UInt8)(x4:Int)(μ:Mu):=(GD x0 x3 x4).loop ρ μ
def sH (x3:List UInt8)(μ:Mu):St:= .exit 0 (mS [(3,LV.str x3)] []) μ
theorem C4 (x0 x3 x4 μ):(GD x0 x3 x4).rK ρ μ=
 cond (decide (x4 < (List.length x0 : Int))) (
 opt (bZ x0 x4 (IntKind.wrap .i64 (x4+(1:Int)))) fun s1=>
 ay (bf (List.length x3 + List.length s1)) (
 opt (a7 x0 x4) fun y2=>
 cond (decide ((y2.toNat : Int) = (39 : Int))) (
 ay (bf (List.length (x3 ++ s1) + List.length ([39] : List UInt8))) (
 w5 ρ x0 ((x3++s1)++([39]:List UInt8)) (IntKind.wrap .i64 (x4+(1:Int))) μ)) (
 w5 ρ x0 (x3++s1) (IntKind.wrap .i64 (x4+(1:Int))) μ))) (
 some (sH x3 μ)):=by kernel_rfl
theorem EI (x3 μ):kB ρ 42 H42 [.block 0,.seq (cA 42 [1,1,1])] (sH x3 μ)=
 ay (bf (List.length x3 + List.length ([39] : List UInt8))) (
 some (.ret (LV.str (x3++([39]:List UInt8))) μ)):=by kernel_rfl
theorem OY (a μ):aG E ρ 42 [LV.str a] μ=
 opt (w5 ρ a ([39]:List UInt8) (0:Int) μ) (kB ρ 42 H42 [.block 0,.seq (cA 42 [1,1,1])]):=by kernel_rfl
def GE (x0:List UInt8)(x1 x5:Int):SegD:=⟨H47,[(5,0)],cA 47 [1,1,0,0,0],mS [(0,LV.str x0),(1,LV.int .i64 x1),(5,LV.int .i64 x5)] []⟩
def DD (x0:List UInt8)(x1 x5:Int)(μ:Mu):=(GE x0 x1 x5).loop ρ μ
def nS (x5:Int)(μ:Mu):St:= .exit 0 (mS [(5,LV.int .i64 x5)] []) μ
def Ir (pv:CV)(μ:Mu):St:= .panic pv (mS [] []) μ
theorem C5 (x0 x1 x5 μ):(GE x0 x1 x5).rK ρ μ=
 cond (decide (IntKind.wrap .i64 (x1 + x5) < (List.length x0 : Int))) (
 opt (a7 x0 (IntKind.wrap .i64 (x1+x5))) fun y1=>
 callK (ρ.call 67 [LV.int .u8 (y1.toNat : Int)] μ) (fun v2 μ3 =>
 opt (aP v2) fun b6=>
 cond (b6) (
 DD ρ x0 x1 (IntKind.wrap .i64 (x5+(1:Int))) μ3) (
 some (nS x5 μ3))) (pX Ir)) (
 some (nS x5 μ)):=by kernel_rfl
theorem EJ (x5 μ):kB ρ 47 H47 [.block 0,.seq (cA 47 [1,1,1])] (nS x5 μ)=
 some (.ret (LV.int .i64 x5) μ):=by kernel_rfl
theorem OZ (a b μ):aG E ρ 47 [LV.str a,LV.int .i64 b] μ=
 opt (DD ρ a b (0:Int) μ) (kB ρ 47 H47 [.block 0,.seq (cA 47 [1,1,1])]):=by kernel_rfl
theorem O0 (a μ):aG E ρ 48 [LV.str a] μ=
 cond (decide ((1320 : Int) < (List.length a : Int))) (
 some (.ret (LV.int .i64 (8:Int)) μ)) (
 callK (ρ.call 41 [LV.str a, LV.int .i64 (1320 : Int)] μ) (fun v1 μ2 =>
 opt (aP v1) fun b5=>
 cond (!b5) (
 some (.ret (LV.int .i64 (3:Int)) μ2)) (
 some (.ret (LV.int .i64 (0:Int)) μ2))) pP):=by kernel_rfl
theorem O1 (a b μ):aG E ρ 50 [LV.cv (CV.sl a),LV.str b] μ=
 callK (ρ.call 94 [LV.cv (CV.sl a), LV.str b] μ) (fun v1 μ2 =>
 opt (aH .i64 v1) fun n5=>
 some (.ret (LV.bool (decide ((0:Int)≤n5))) μ2)) pP:=by kernel_rfl
theorem O2 (μ):aG E ρ 51 [] μ=
 some (.ret (LV.osl [CV.str ([46,76,84,46]:List UInt8),CV.str ([46,76,69,46]:List UInt8),CV.str ([46,69,81,46]:List UInt8),CV.str ([46,78,69,46]:List UInt8),CV.str ([46,71,69,46]:List UInt8),CV.str ([46,71,84,46]:List UInt8),CV.str ([46,78,79,84,46]:List UInt8),CV.str ([46,65,78,68,46]:List UInt8),CV.str ([46,79,82,46]:List UInt8),CV.str ([46,69,81,86,46]:List UInt8),CV.str ([46,78,69,81,86,46]:List UInt8)]) μ):=by kernel_rfl
theorem O3 (μ):aG E ρ 52 [] μ=
 some (.ret (LV.osl [CV.str ([42,42]:List UInt8),CV.str ([47,47]:List UInt8),CV.str ([61,62]:List UInt8),CV.str ([42]:List UInt8),CV.str ([47]:List UInt8),CV.str ([43]:List UInt8),CV.str ([45]:List UInt8),CV.str ([40]:List UInt8),CV.str ([41]:List UInt8),CV.str ([44]:List UInt8),CV.str ([58]:List UInt8),CV.str ([61]:List UInt8),CV.str ([37]:List UInt8)]) μ):=by kernel_rfl
def GF (x1:List UInt8)(x5:Bool)(x8:List CV)(x9 x10:Int):SegD:=⟨H54,[(5,0)],cA 54 [1,1,0,1,0,0],mS [(1,LV.str x1),(5,LV.bool x5),(8,LV.cv (CV.sl x8)),(9,LV.int .i64 x9),(10,LV.int .i64 x10)] []⟩
def w6 (x1:List UInt8)(x5:Bool)(x8:List CV)(x9 x10:Int)(μ:Mu):=(GF x1 x5 x8 x9 x10).loop ρ μ
def sI (x5:Bool)(μ:Mu):St:= .exit 0 (mS [(5,LV.bool x5)] []) μ
theorem C6 (x1 x5 x8 x9 x10 μ):(GF x1 x5 x8 x9 x10).rK ρ μ=
 cond (decide (x10 < x9)) (
 opt (cE x8 x10) fun c1=>
 opt (aL (LV.cv c1)) fun s2=>
 cond (x5) (
 w6 ρ x1 true x8 x9 (IntKind.wrap .i64 (x10+(1:Int))) μ) (
 w6 ρ x1 (decide (s2=x1)) x8 x9 (IntKind.wrap .i64 (x10+(1:Int))) μ)) (
 some (sI x5 μ)):=by kernel_rfl
theorem EK (x5 μ):kB ρ 54 H54 [.block 0,.seq (cA 54 [1,1,1])] (sI x5 μ)=
 some (.ret (LV.bool x5) μ):=by kernel_rfl
theorem O4 (a b μ):aG E ρ 54 [LV.cv (CV.sl a),LV.str b] μ=
 opt (w6 ρ b false a (List.length a:Int) (0:Int) μ) (kB ρ 54 H54 [.block 0,.seq (cA 54 [1,1,1])]):=by kernel_rfl
theorem O5 (μ):aG E ρ 55 [] μ=
 some (.ret (LV.osl [CV.str ([46,76,84,46]:List UInt8),CV.str ([46,76,69,46]:List UInt8),CV.str ([46,69,81,46]:List UInt8),CV.str ([46,78,69,46]:List UInt8),CV.str ([46,71,69,46]:List UInt8),CV.str ([46,71,84,46]:List UInt8),CV.str ([46,78,79,84,46]:List UInt8),CV.str ([46,65,78,68,46]:List UInt8),CV.str ([46,79,82,46]:List UInt8),CV.str ([46,69,81,86,46]:List UInt8),CV.str ([46,78,69,81,86,46]:List UInt8)]) μ):=by kernel_rfl
theorem O6 (μ):aG E ρ 56 [] μ=
 some (.ret (LV.osl [CV.str ([42,42]:List UInt8),CV.str ([47,47]:List UInt8),CV.str ([61,62]:List UInt8),CV.str ([42]:List UInt8),CV.str ([47]:List UInt8),CV.str ([43]:List UInt8),CV.str ([45]:List UInt8),CV.str ([40]:List UInt8),CV.str ([41]:List UInt8),CV.str ([44]:List UInt8),CV.str ([58]:List UInt8),CV.str ([61]:List UInt8),CV.str ([37]:List UInt8)]) μ):=by kernel_rfl
def Gn (x7:CV)(x8:Int):SegD:=⟨H57,[(4,2),(5,0),(6,0)],cA 57 [1,1,1],mS [(7,LV.cv x7),(8,LV.int .i64 x8)] []⟩
def J9 (x7:CV)(x8:Int)(μ:Mu):=(Gn x7 x8).seg ρ μ
def sk (x4:List CV)(x5 x6:Int)(μ:Mu):St:= .ret (mS [(4,LV.cv (CV.sl x4)),(5,LV.int .i64 x5),(6,LV.int .i64 x6)] []) μ
theorem LE (x7 x8 μ):(Gn x7 x8).sK ρ μ=
 opt (lA (LV.cv x7)) fun b13=>
 ay (!b13) (
 opt (iI (LV.cv (ny x7))) fun cs14=>
 opt (az cs14) fun q15=>
 opt (aL (LV.cv q15.1)) fun s16=>
 opt (az q15.2) fun q17=>
 opt (aP (LV.cv q17.1)) fun b18=>
 opt (az q17.2) fun q19=>
 opt (cg (LV.cv q19.1)) fun l20=>
 opt (az q19.2) fun q21=>
 opt (cg (LV.cv q21.1)) fun l22=>
 opt (aO q21.2) fun u23=>
 some (sk l20 x8 (0:Int) μ)):=by kernel_rfl
theorem En (x4 x5 x6 μ):kB ρ 57 H57 [] (sk x4 x5 x6 μ)=
 some (.ret (LV.ltup [LV.cv (CV.sl x4),LV.int .i64 x5,LV.int .i64 x6]) μ):=by kernel_rfl
theorem O7 (a b μ):aG E ρ 57 [LV.str a,LV.bool b] μ=
 callK (ρ.call 78 [LV.str a, LV.bool b] μ) (fun v1 μ2 =>
 opt (aS v1) fun xs5=>
 opt (az xs5) fun q6=>
 opt (dw q6.1) fun c7=>
 opt (az q6.2) fun q8=>
 opt (aH .i64 q8.1) fun n9=>
 opt (az q8.2) fun q10=>
 opt (aH .i64 q10.1) fun n11=>
 opt (aO q10.2) fun u12=>
 cond (!decide (n11 = (0 : Int))) (
 some (.ret (LV.ltup [LV.cv (CV.v (.slice none 0 0)),LV.int .i64 n9,LV.int .i64 n11]) μ2)) (
 opt (J9 ρ c7 n9 μ2) (kB ρ 57 H57 []))) pP:=by kernel_rfl
def GG (x0:List UInt8)(x1 x6 o0_0 o0_1:Int)(o0_2:List UInt8)(o0_3 o0_4:Int):SegD:=⟨H58,[(0,0),(1,0),(4,0),(6,0)],cA 58 [1,1,0,0,1,0,1,0,0,0],mS [(0,LV.str x0),(1,LV.int .i64 x1),(4,LV.loc 0 0),(6,LV.int .i64 x6)] [Ob.cells [LV.int .i64 o0_0,LV.int .i64 o0_1,LV.str o0_2,LV.int .i64 o0_3,LV.int .i64 o0_4]]⟩
def qR (x0:List UInt8)(x1 x6 o0_0 o0_1:Int)(o0_2:List UInt8)(o0_3 o0_4:Int)(μ:Mu):=(GG x0 x1 x6 o0_0 o0_1 o0_2 o0_3 o0_4).loop ρ μ
def lq (x0:List UInt8)(x1 x6 o0_0 o0_1:Int)(o0_2:List UInt8)(o0_3 o0_4:Int)(μ:Mu):St:= .exit 1 (mS [(0,LV.str x0),(1,LV.int .i64 x1),(4,LV.loc 0 0),(6,LV.int .i64 x6)] [Ob.cells [LV.int .i64 o0_0,LV.int .i64 o0_1,LV.str o0_2,LV.int .i64 o0_3,LV.int .i64 o0_4]]) μ
def xU (pv:CV)(μ:Mu):St:= .panic pv (mS [] []) μ
def Gp (x0:List UInt8)(x1 x6 o0_0 o0_1:Int)(o0_2:List UInt8)(o0_3 o0_4:Int):SegD:=⟨H58,[(0,0),(1,0),(4,0)],cA 58 [1,1,0,0,1,0,1,1,1],mS [(0,LV.str x0),(1,LV.int .i64 x1),(4,LV.loc 0 0),(6,LV.int .i64 x6)] [Ob.cells [LV.int .i64 o0_0,LV.int .i64 o0_1,LV.str o0_2,LV.int .i64 o0_3,LV.int .i64 o0_4]]⟩
def Ka (x0:List UInt8)(x1 x6 o0_0 o0_1:Int)(o0_2:List UInt8)(o0_3 o0_4:Int)(μ:Mu):=(Gp x0 x1 x6 o0_0 o0_1 o0_2 o0_3 o0_4).seg ρ μ
def sm (o0_0 o0_1:Int)(o0_2:List UInt8)(o0_3 o0_4:Int)(μ:Mu):St:= .ret (mS [(4,LV.loc 0 0)] [Ob.cells [LV.int .i64 o0_0,LV.int .i64 o0_1,LV.str o0_2,LV.int .i64 o0_3,LV.int .i64 o0_4]]) μ
def In (pv:CV)(μ:Mu):St:= .panic pv (mS [] []) μ
def Cl (x0:List UInt8)(x1 x5:Int)(x60:Bool)(o0_0 o0_1:Int)(o0_2:List UInt8)(o0_3 o0_4:Int):SegD:=⟨H58,[(0,0),(1,0),(4,0)],cA 58 [1,1,0,0,1,1,1],mS [(0,LV.str x0),(1,LV.int .i64 x1),(4,LV.loc 0 0),(5,LV.int .u8 x5),(60,LV.bool x60)] [Ob.cells [LV.int .i64 o0_0,LV.int .i64 o0_1,LV.str o0_2,LV.int .i64 o0_3,LV.int .i64 o0_4]]⟩
def mW (x0:List UInt8)(x1 x5:Int)(x60:Bool)(o0_0 o0_1:Int)(o0_2:List UInt8)(o0_3 o0_4:Int)(μ:Mu):=(Cl x0 x1 x5 x60 o0_0 o0_1 o0_2 o0_3 o0_4).seg ρ μ
def c8 (o0_0 o0_1:Int)(o0_2:List UInt8)(o0_3 o0_4:Int)(μ:Mu):St:= .ret (mS [(4,LV.loc 0 0)] [Ob.cells [LV.int .i64 o0_0,LV.int .i64 o0_1,LV.str o0_2,LV.int .i64 o0_3,LV.int .i64 o0_4]]) μ
def l0 (pv:CV)(μ:Mu):St:= .panic pv (mS [] []) μ
def CH (x0:List UInt8)(x1:Int)(x85:List CV)(x86 x87 o0_0 o0_1:Int)(o0_2:List UInt8)(o0_3 o0_4:Int):SegD:=⟨H58,[(0,0),(1,0),(4,0)],cA 58 [1,1,0,0,1,1,1,1,1,0,0,1,0,0],mS [(0,LV.str x0),(1,LV.int .i64 x1),(4,LV.loc 0 0),(85,LV.cv (CV.sl x85)),(86,LV.int .i64 x86),(87,LV.int .i64 x87)] [Ob.cells [LV.int .i64 o0_0,LV.int .i64 o0_1,LV.str o0_2,LV.int .i64 o0_3,LV.int .i64 o0_4]]⟩
def xM (x0:List UInt8)(x1:Int)(x85:List CV)(x86 x87 o0_0 o0_1:Int)(o0_2:List UInt8)(o0_3 o0_4:Int)(μ:Mu):=(CH x0 x1 x85 x86 x87 o0_0 o0_1 o0_2 o0_3 o0_4).loop ρ μ
def pO (o0_0 o0_1:Int)(o0_2:List UInt8)(o0_3 o0_4:Int)(μ:Mu):St:= .ret (mS [(4,LV.loc 0 0)] [Ob.cells [LV.int .i64 o0_0,LV.int .i64 o0_1,LV.str o0_2,LV.int .i64 o0_3,LV.int .i64 o0_4]]) μ
def FZ (pv:CV)(μ:Mu):St:= .panic pv (mS [] []) μ
def pQ (x0:List UInt8)(x1 o0_0 o0_1:Int)(o0_2:List UInt8)(o0_3 o0_4:Int)(μ:Mu):St:= .exit 3 (mS [(0,LV.str x0),(1,LV.int .i64 x1),(4,LV.loc 0 0)] [Ob.cells [LV.int .i64 o0_0,LV.int .i64 o0_1,LV.str o0_2,LV.int .i64 o0_3,LV.int .i64 o0_4]]) μ
def CI (x0:List UInt8)(x1:Int)(x103:List CV)(x104 x105 o0_0 o0_1:Int)(o0_2:List UInt8)(o0_3 o0_4:Int):SegD:=⟨H58,[(4,0)],cA 58 [1,1,0,0,1,1,1,1,1,0,1,0,1,0,0],mS [(0,LV.str x0),(1,LV.int .i64 x1),(4,LV.loc 0 0),(103,LV.cv (CV.sl x103)),(104,LV.int .i64 x104),(105,LV.int .i64 x105)] [Ob.cells [LV.int .i64 o0_0,LV.int .i64 o0_1,LV.str o0_2,LV.int .i64 o0_3,LV.int .i64 o0_4]]⟩
def xN (x0:List UInt8)(x1:Int)(x103:List CV)(x104 x105 o0_0 o0_1:Int)(o0_2:List UInt8)(o0_3 o0_4:Int)(μ:Mu):=(CI x0 x1 x103 x104 x105 o0_0 o0_1 o0_2 o0_3 o0_4).loop ρ μ
def pR (o0_0 o0_1:Int)(o0_2:List UInt8)(o0_3 o0_4:Int)(μ:Mu):St:= .ret (mS [(4,LV.loc 0 0)] [Ob.cells [LV.int .i64 o0_0,LV.int .i64 o0_1,LV.str o0_2,LV.int .i64 o0_3,LV.int .i64 o0_4]]) μ
def F0 (pv:CV)(μ:Mu):St:= .panic pv (mS [] []) μ
def pS (o0_0 o0_1:Int)(o0_2:List UInt8)(o0_3 o0_4:Int)(μ:Mu):St:= .exit 5 (mS [(4,LV.loc 0 0)] [Ob.cells [LV.int .i64 o0_0,LV.int .i64 o0_1,LV.str o0_2,LV.int .i64 o0_3,LV.int .i64 o0_4]]) μ
def pD (x0:List UInt8)(x1 o0_0 o0_1:Int)(o0_2:List UInt8)(o0_3 o0_4:Int)(μ:Mu):St:= .norm (mS [(0,LV.str x0),(1,LV.int .i64 x1),(4,LV.loc 0 0)] [Ob.cells [LV.int .i64 o0_0,LV.int .i64 o0_1,LV.str o0_2,LV.int .i64 o0_3,LV.int .i64 o0_4]]) μ
def Cm (x0:List UInt8)(x1 o0_0 o0_1:Int)(o0_2:List UInt8)(o0_3 o0_4:Int):SegD:=⟨H58,[(4,0)],cA 58 [1,1,1],mS [(0,LV.str x0),(1,LV.int .i64 x1),(4,LV.loc 0 0)] [Ob.cells [LV.int .i64 o0_0,LV.int .i64 o0_1,LV.str o0_2,LV.int .i64 o0_3,LV.int .i64 o0_4]]⟩
def FD (x0:List UInt8)(x1 o0_0 o0_1:Int)(o0_2:List UInt8)(o0_3 o0_4:Int)(μ:Mu):=(Cm x0 x1 o0_0 o0_1 o0_2 o0_3 o0_4).seg ρ μ
def CJ (x0:List UInt8)(x1:Int)(x133:List CV)(x134 x135 o0_0 o0_1:Int)(o0_2:List UInt8)(o0_3 o0_4 o1_0 o1_1:Int)(o1_2:List UInt8)(o1_3 o1_4:Int):SegD:=⟨H58,[(0,0),(1,0),(4,0),(11,0)],cA 58 [1,1,1,1,0,1,0,0],mS [(0,LV.str x0),(1,LV.int .i64 x1),(4,LV.loc 0 0),(11,LV.loc 1 0),(133,LV.cv (CV.sl x133)),(134,LV.int .i64 x134),(135,LV.int .i64 x135)] [Ob.cells [LV.int .i64 o0_0,LV.int .i64 o0_1,LV.str o0_2,LV.int .i64 o0_3,LV.int .i64 o0_4],Ob.cells [LV.int .i64 o1_0,LV.int .i64 o1_1,LV.str o1_2,LV.int .i64 o1_3,LV.int .i64 o1_4]]⟩
def o9 (x0:List UInt8)(x1:Int)(x133:List CV)(x134 x135 o0_0 o0_1:Int)(o0_2:List UInt8)(o0_3 o0_4 o1_0 o1_1:Int)(o1_2:List UInt8)(o1_3 o1_4:Int)(μ:Mu):=(CJ x0 x1 x133 x134 x135 o0_0 o0_1 o0_2 o0_3 o0_4 o1_0 o1_1 o1_2 o1_3 o1_4).loop ρ μ
def F1 (pv:CV)(μ:Mu):St:= .panic pv (mS [] []) μ
def pT (x0:List UInt8)(x1 o0_0 o0_1:Int)(o0_2:List UInt8)(o0_3 o0_4 o1_0 o1_1:Int)(o1_2:List UInt8)(o1_3 o1_4:Int)(μ:Mu):St:= .exit 7 (mS [(0,LV.str x0),(1,LV.int .i64 x1),(4,LV.loc 0 0),(11,LV.loc 1 0)] [Ob.cells [LV.int .i64 o0_0,LV.int .i64 o0_1,LV.str o0_2,LV.int .i64 o0_3,LV.int .i64 o0_4],Ob.cells [LV.int .i64 o1_0,LV.int .i64 o1_1,LV.str o1_2,LV.int .i64 o1_3,LV.int .i64 o1_4]]) μ
def vS (pv:CV)(μ:Mu):St:= .panic pv (mS [] []) μ
def CK (x0:List UInt8)(x1:Int)(x164:List CV)(x165 x166 o0_0 o0_1:Int)(o0_2:List UInt8)(o0_3 o0_4 o1_0 o1_1:Int)(o1_2:List UInt8)(o1_3 o1_4:Int):SegD:=⟨H58,[(4,0),(11,0)],cA 58 [1,1,1,1,1,0,1,0,0],mS [(0,LV.str x0),(1,LV.int .i64 x1),(4,LV.loc 0 0),(11,LV.loc 1 0),(164,LV.cv (CV.sl x164)),(165,LV.int .i64 x165),(166,LV.int .i64 x166)] [Ob.cells [LV.int .i64 o0_0,LV.int .i64 o0_1,LV.str o0_2,LV.int .i64 o0_3,LV.int .i64 o0_4],Ob.cells [LV.int .i64 o1_0,LV.int .i64 o1_1,LV.str o1_2,LV.int .i64 o1_3,LV.int .i64 o1_4]]⟩
def mZ (x0:List UInt8)(x1:Int)(x164:List CV)(x165 x166 o0_0 o0_1:Int)(o0_2:List UInt8)(o0_3 o0_4 o1_0 o1_1:Int)(o1_2:List UInt8)(o1_3 o1_4:Int)(μ:Mu):=(CK x0 x1 x164 x165 x166 o0_0 o0_1 o0_2 o0_3 o0_4 o1_0 o1_1 o1_2 o1_3 o1_4).loop ρ μ
def F2 (pv:CV)(μ:Mu):St:= .panic pv (mS [] []) μ
def kc (o0_0 o0_1:Int)(o0_2:List UInt8)(o0_3 o0_4 o1_0 o1_1:Int)(o1_2:List UInt8)(o1_3 o1_4:Int)(μ:Mu):St:= .exit 9 (mS [(4,LV.loc 0 0),(11,LV.loc 1 0)] [Ob.cells [LV.int .i64 o0_0,LV.int .i64 o0_1,LV.str o0_2,LV.int .i64 o0_3,LV.int .i64 o0_4],Ob.cells [LV.int .i64 o1_0,LV.int .i64 o1_1,LV.str o1_2,LV.int .i64 o1_3,LV.int .i64 o1_4]]) μ
def l3 (o0_0 o0_1:Int)(o0_2:List UInt8)(o0_3 o0_4:Int)(μ:Mu):St:= .ret (mS [(4,LV.loc 0 0)] [Ob.cells [LV.int .i64 o0_0,LV.int .i64 o0_1,LV.str o0_2,LV.int .i64 o0_3,LV.int .i64 o0_4]]) μ
theorem C7 (x0 x1 x6 o0_0 o0_1 o0_2 o0_3 o0_4 μ):(GG x0 x1 x6 o0_0 o0_1 o0_2 o0_3 o0_4).rK ρ μ=
 cond (decide (x6 < (List.length x0 : Int))) (
 opt (a7 x0 x6) fun y7=>
 callK (ρ.call 96 [LV.int .u8 (y7.toNat : Int)] μ) (fun v8 μ9 =>
 opt (aP v8) fun b12=>
 cond (b12) (
 qR ρ x0 x1 (IntKind.wrap .i64 (x6+(1:Int))) o0_0 o0_1 o0_2 o0_3 o0_4 μ9) (
 opt (a7 x0 x6) fun y13=>
 callK (ρ.call 67 [LV.int .u8 (y13.toNat : Int)] μ9) (fun v14 μ15 =>
 opt (aP v14) fun b18=>
 cond (b18) (
 qR ρ x0 x1 (IntKind.wrap .i64 (x6+(1:Int))) o0_0 o0_1 o0_2 o0_3 o0_4 μ15) (
 opt (a7 x0 x6) fun y19=>
 cond (decide ((y19.toNat : Int) = (95 : Int))) (
 qR ρ x0 x1 (IntKind.wrap .i64 (x6+(1:Int))) o0_0 o0_1 o0_2 o0_3 o0_4 μ15) (
 some (lq x0 x1 x6 o0_0 o0_1 o0_2 o0_3 o0_4 μ15)))) (pX xU))) (pX xU)) (
 some (lq x0 x1 x6 o0_0 o0_1 o0_2 o0_3 o0_4 μ)):=by kernel_rfl
theorem LF (x0 x1 x6 o0_0 o0_1 o0_2 o0_3 o0_4 μ):(Gp x0 x1 x6 o0_0 o0_1 o0_2 o0_3 o0_4).sK ρ μ=
 opt (bZ x0 x1 x6) fun s20=>
 callK (ρ.call 97 [LV.str s20] μ) (fun v21 μ22 =>
 opt (aL v21) fun s25=>
 some (sm (0:Int) (0:Int) s25 x6 (0:Int) μ22)) (pX In):=by kernel_rfl
theorem Eo (o0_0 o0_1 o0_2 o0_3 o0_4 μ):kB ρ 58 H58 [.block 0,.seq (cA 58 [1,1,1])] (sm o0_0 o0_1 o0_2 o0_3 o0_4 μ)=
 some (.ret (LV.cv (CV.agg [CV.int .i64 o0_0,CV.int .i64 o0_1,CV.str o0_2,CV.int .i64 o0_3,CV.int .i64 o0_4])) μ):=by kernel_rfl
theorem EM (x0 x1 x6 o0_0 o0_1 o0_2 o0_3 o0_4 μ):kB ρ 58 H58 [.block 1,.seq (cA 58 [1,1,0,0,1,0,1,1]),.block 0,.seq (cA 58 [1,1,1])] (lq x0 x1 x6 o0_0 o0_1 o0_2 o0_3 o0_4 μ)=
 cond (decide ((31 : Int) < IntKind.wrap .i64 (x6 - x1))) (
 some (.ret (LV.cv (CV.agg [CV.int .i64 (0:Int),CV.int .i64 (0:Int),CV.str ([]:List UInt8),CV.int .i64 (0:Int),CV.int .i64 (4:Int)])) μ)) (
 opt (Ka ρ x0 x1 x6 o0_0 o0_1 o0_2 o0_3 o0_4 μ) (kB ρ 58 H58 [.block 0,.seq (cA 58 [1,1,1])])):=by kernel_rfl
theorem zm (x0 x1 x85 x86 x87 o0_0 o0_1 o0_2 o0_3 o0_4 μ):(CH x0 x1 x85 x86 x87 o0_0 o0_1 o0_2 o0_3 o0_4).rK ρ μ=
 cond (decide (x87 < x86)) (
 opt (cE x85 x87) fun c47=>
 opt (aL (LV.cv c47)) fun s48=>
 callK (ρ.call 99 [LV.str x0, LV.int .i64 x1, LV.str s48] μ) (fun v49 μ50 =>
 opt (aP v49) fun b53=>
 cond (b53) (
 some (pO (2:Int) (0:Int) s48 (IntKind.wrap .i64 (x1+(List.length s48:Int))) (0:Int) μ50)) (
 xM ρ x0 x1 x85 x86 (IntKind.wrap .i64 (x87+(1:Int))) o0_0 o0_1 o0_2 o0_3 o0_4 μ50)) (pX FZ)) (
 some (pQ x0 x1 o0_0 o0_1 o0_2 o0_3 o0_4 μ)):=by kernel_rfl
theorem By (o0_0 o0_1 o0_2 o0_3 o0_4 μ):kS ρ H58 [.block 3,.seq (cA 58 [1,1,0,0,1,1,1,1,1,0,1])] [(0,0),(1,0),(4,0)] (pO o0_0 o0_1 o0_2 o0_3 o0_4 μ)=
 some (c8 o0_0 o0_1 o0_2 o0_3 o0_4 μ):=by kernel_rfl
theorem zn (x0 x1 x103 x104 x105 o0_0 o0_1 o0_2 o0_3 o0_4 μ):(CI x0 x1 x103 x104 x105 o0_0 o0_1 o0_2 o0_3 o0_4).rK ρ μ=
 cond (decide (x105 < x104)) (
 opt (cE x103 x105) fun c54=>
 opt (aL (LV.cv c54)) fun s55=>
 callK (ρ.call 99 [LV.str x0, LV.int .i64 x1, LV.str s55] μ) (fun v56 μ57 =>
 opt (aP v56) fun b60=>
 cond (b60) (
 some (pR (1:Int) (5:Int) s55 (IntKind.wrap .i64 (x1+(List.length s55:Int))) (0:Int) μ57)) (
 xN ρ x0 x1 x103 x104 (IntKind.wrap .i64 (x105+(1:Int))) o0_0 o0_1 o0_2 o0_3 o0_4 μ57)) (pX F0)) (
 some (pS o0_0 o0_1 o0_2 o0_3 o0_4 μ)):=by kernel_rfl
theorem BA (o0_0 o0_1 o0_2 o0_3 o0_4 μ):kS ρ H58 [.block 5,.seq (cA 58 [1,1,0,0,1,1,1,1,1,0,1,1])] [(0,0),(1,0),(4,0)] (pR o0_0 o0_1 o0_2 o0_3 o0_4 μ)=
 some (c8 o0_0 o0_1 o0_2 o0_3 o0_4 μ):=by kernel_rfl
theorem BB (o0_0 o0_1 o0_2 o0_3 o0_4 μ):kS ρ H58 [.block 5,.seq (cA 58 [1,1,0,0,1,1,1,1,1,0,1,1])] [(0,0),(1,0),(4,0)] (pS o0_0 o0_1 o0_2 o0_3 o0_4 μ)=
 some (c8 (0:Int) (0:Int) ([]:List UInt8) (0:Int) (7:Int) μ):=by kernel_rfl
theorem Bz (x0 x1 o0_0 o0_1 o0_2 o0_3 o0_4 μ):kS ρ H58 [.block 3,.seq (cA 58 [1,1,0,0,1,1,1,1,1,0,1])] [(0,0),(1,0),(4,0)] (pQ x0 x1 o0_0 o0_1 o0_2 o0_3 o0_4 μ)=
 opt (xN ρ x0 x1 [CV.str ([46,84,82,85,69,46]:List UInt8),CV.str ([46,70,65,76,83,69,46]:List UInt8)] (2:Int) (0:Int) o0_0 o0_1 o0_2 o0_3 o0_4 μ) (kS ρ H58 [.block 5,.seq (cA 58 [1,1,0,0,1,1,1,1,1,0,1,1])] [(0,0),(1,0),(4,0)]):=by kernel_rfl
theorem Jm (x0 x1 x5 x60 o0_0 o0_1 o0_2 o0_3 o0_4 μ):(Cl x0 x1 x5 x60 o0_0 o0_1 o0_2 o0_3 o0_4).sK ρ μ=
 cond (x60) (
 callK (ρ.call 98 [LV.str x0, LV.int .i64 x1] μ) (fun v33 μ34 =>
 qw v33 fun n37 n38 s39 n40 n41=>
 some (c8 n37 n38 s39 n40 n41 μ34)) (pX l0)) (
 cond (decide (x5 = (46 : Int))) (
 callK (ρ.call 55 [] μ) (fun v42 μ43 =>
 opt (cg v42) fun l46=>
 opt (xM ρ x0 x1 l46 (List.length l46:Int) (0:Int) o0_0 o0_1 o0_2 o0_3 o0_4 μ43) (kS ρ H58 [.block 3,.seq (cA 58 [1,1,0,0,1,1,1,1,1,0,1])] [(0,0),(1,0),(4,0)])) (pX l0)) (
 cond (decide (x5 = (39 : Int))) (
 callK (ρ.call 81 [LV.str x0, LV.int .i64 x1] μ) (fun v63 μ64 =>
 qw v63 fun n67 n68 s69 n70 n71=>
 some (c8 n67 n68 s69 n70 n71 μ64)) (pX l0)) (
 cond (decide (x5 = (34 : Int))) (
 callK (ρ.call 81 [LV.str x0, LV.int .i64 x1] μ) (fun v72 μ73 =>
 qw v72 fun n76 n77 s78 n79 n80=>
 some (c8 n76 n77 s78 n79 n80 μ73)) (pX l0)) (
 some (pD x0 x1 o0_0 o0_1 o0_2 o0_3 o0_4 μ))))):=by kernel_rfl
theorem rG (o0_0 o0_1 o0_2 o0_3 o0_4 μ):kB ρ 58 H58 [.block 0,.seq (cA 58 [1,1,1])] (c8 o0_0 o0_1 o0_2 o0_3 o0_4 μ)=
 some (.ret (LV.cv (CV.agg [CV.int .i64 o0_0,CV.int .i64 o0_1,CV.str o0_2,CV.int .i64 o0_3,CV.int .i64 o0_4])) μ):=by kernel_rfl
theorem oC (x0 x1 x133 x134 x135 o0_0 o0_1 o0_2 o0_3 o0_4 o1_0 o1_1 o1_2 o1_3 o1_4 μ):(CJ x0 x1 x133 x134 x135 o0_0 o0_1 o0_2 o0_3 o0_4 o1_0 o1_1 o1_2 o1_3 o1_4).rK ρ μ=
 cond (decide (x135 < x134)) (
 opt (cE x133 x135) fun c86=>
 KK (LV.cv c86) fun s87 s88=>
 callK (ρ.call 99 [LV.str x0, LV.int .i64 x1, LV.str s87] μ) (fun v89 μ90 =>
 opt (aP v89) fun b93=>
 cond (b93) (
 cond (decide (o1_3 < IntKind.wrap .i64 (x1 + (List.length s87 : Int)))) (
 o9 ρ x0 x1 x133 x134 (IntKind.wrap .i64 (x135+(1:Int))) o0_0 o0_1 o0_2 o0_3 o0_4 (2:Int) (0:Int) s88 (IntKind.wrap .i64 (x1+(List.length s87:Int))) (0:Int) μ90) (
 o9 ρ x0 x1 x133 x134 (IntKind.wrap .i64 (x135+(1:Int))) o0_0 o0_1 o0_2 o0_3 o0_4 o1_0 o1_1 o1_2 o1_3 o1_4 μ90)) (
 o9 ρ x0 x1 x133 x134 (IntKind.wrap .i64 (x135+(1:Int))) o0_0 o0_1 o0_2 o0_3 o0_4 o1_0 o1_1 o1_2 o1_3 o1_4 μ90)) (pX F1)) (
 some (pT x0 x1 o0_0 o0_1 o0_2 o0_3 o0_4 o1_0 o1_1 o1_2 o1_3 o1_4 μ)):=by kernel_rfl
theorem oD (x0 x1 x164 x165 x166 o0_0 o0_1 o0_2 o0_3 o0_4 o1_0 o1_1 o1_2 o1_3 o1_4 μ):(CK x0 x1 x164 x165 x166 o0_0 o0_1 o0_2 o0_3 o0_4 o1_0 o1_1 o1_2 o1_3 o1_4).rK ρ μ=
 cond (decide (x166 < x165)) (
 opt (cE x164 x166) fun c99=>
 opt (aL (LV.cv c99)) fun s100=>
 callK (ρ.call 99 [LV.str x0, LV.int .i64 x1, LV.str s100] μ) (fun v101 μ102 =>
 opt (aP v101) fun b105=>
 cond (b105) (
 cond (decide (o1_3 < IntKind.wrap .i64 (x1 + (List.length s100 : Int)))) (
 mZ ρ x0 x1 x164 x165 (IntKind.wrap .i64 (x166+(1:Int))) o0_0 o0_1 o0_2 o0_3 o0_4 (2:Int) (0:Int) s100 (IntKind.wrap .i64 (x1+(List.length s100:Int))) (0:Int) μ102) (
 mZ ρ x0 x1 x164 x165 (IntKind.wrap .i64 (x166+(1:Int))) o0_0 o0_1 o0_2 o0_3 o0_4 o1_0 o1_1 o1_2 o1_3 o1_4 μ102)) (
 mZ ρ x0 x1 x164 x165 (IntKind.wrap .i64 (x166+(1:Int))) o0_0 o0_1 o0_2 o0_3 o0_4 o1_0 o1_1 o1_2 o1_3 o1_4 μ102)) (pX F2)) (
 some (kc o0_0 o0_1 o0_2 o0_3 o0_4 o1_0 o1_1 o1_2 o1_3 o1_4 μ)):=by kernel_rfl
theorem rS (o0_0 o0_1 o0_2 o0_3 o0_4 o1_0 o1_1 o1_2 o1_3 o1_4 μ):kS ρ H58 [.block 9,.seq (cA 58 [1,1,1,1,1,1])] [(4,0)] (kc o0_0 o0_1 o0_2 o0_3 o0_4 o1_0 o1_1 o1_2 o1_3 o1_4 μ)=
 some (l3 o1_0 o1_1 o1_2 o1_3 o1_4 μ):=by kernel_rfl
theorem rR (x0 x1 o0_0 o0_1 o0_2 o0_3 o0_4 o1_0 o1_1 o1_2 o1_3 o1_4 μ):kS ρ H58 [.block 7,.seq (cA 58 [1,1,1,1,1])] [(4,0)] (pT x0 x1 o0_0 o0_1 o0_2 o0_3 o0_4 o1_0 o1_1 o1_2 o1_3 o1_4 μ)=
 callK (ρ.call 56 [] μ) (fun v94 μ95 =>
 opt (cg v94) fun l98=>
 opt (mZ ρ x0 x1 l98 (List.length l98:Int) (0:Int) o0_0 o0_1 o0_2 o0_3 o0_4 o1_0 o1_1 o1_2 o1_3 o1_4 μ95) (kS ρ H58 [.block 9,.seq (cA 58 [1,1,1,1,1,1])] [(4,0)])) (pX vS):=by kernel_rfl
theorem Jn (x0 x1 o0_0 o0_1 o0_2 o0_3 o0_4 μ):(Cm x0 x1 o0_0 o0_1 o0_2 o0_3 o0_4).sK ρ μ=
 callK (ρ.call 100 [] μ) (fun v81 μ82 =>
 opt (cg v81) fun l85=>
 opt (o9 ρ x0 x1 l85 (List.length l85:Int) (0:Int) o0_0 o0_1 o0_2 o0_3 o0_4 (0:Int) (0:Int) ([]:List UInt8) (0:Int) (7:Int) μ82) (kS ρ H58 [.block 7,.seq (cA 58 [1,1,1,1,1])] [(4,0)])) (pX vS):=by kernel_rfl
theorem rH (o0_0 o0_1 o0_2 o0_3 o0_4 μ):kB ρ 58 H58 [] (l3 o0_0 o0_1 o0_2 o0_3 o0_4 μ)=
 some (.ret (LV.cv (CV.agg [CV.int .i64 o0_0,CV.int .i64 o0_1,CV.str o0_2,CV.int .i64 o0_3,CV.int .i64 o0_4])) μ):=by kernel_rfl
theorem Bg (x0 x1 o0_0 o0_1 o0_2 o0_3 o0_4 μ):kB ρ 58 H58 [.block 0,.seq (cA 58 [1,1,1])] (pD x0 x1 o0_0 o0_1 o0_2 o0_3 o0_4 μ)=
 opt (FD ρ x0 x1 o0_0 o0_1 o0_2 o0_3 o0_4 μ) (kB ρ 58 H58 []):=by kernel_rfl
theorem O8 (a b μ):aG E ρ 58 [LV.str a,LV.int .i64 b] μ=
 opt (a7 a b) fun y1=>
 callK (ρ.call 96 [LV.int .u8 (y1.toNat : Int)] μ) (fun v2 μ3 =>
 opt (aP v2) fun b6=>
 cond (b6) (
 opt (qR ρ a b b (0:Int) (0:Int) ([]:List UInt8) (0:Int) (0:Int) μ3) (kB ρ 58 H58 [.block 1,.seq (cA 58 [1,1,0,0,1,0,1,1]),.block 0,.seq (cA 58 [1,1,1])])) (
 callK (ρ.call 67 [LV.int .u8 (y1.toNat : Int)] μ3) (fun v28 μ29 =>
 opt (aP v28) fun b32=>
 cond (b32) (
 opt (mW ρ a b (y1.toNat:Int) b32 (0:Int) (0:Int) ([]:List UInt8) (0:Int) (0:Int) μ29) (kB ρ 58 H58 [.block 0,.seq (cA 58 [1,1,1])])) (
 cond (decide ((y1.toNat : Int) = (46 : Int))) (
 cond (decide (IntKind.wrap .i64 (b + (1 : Int)) < (List.length a : Int))) (
 opt (a7 a (IntKind.wrap .i64 (b+(1:Int)))) fun y110=>
 callK (ρ.call 67 [LV.int .u8 (y110.toNat : Int)] μ29) (fun v111 μ112 =>
 opt (aP v111) fun b115=>
 opt (mW ρ a b (y1.toNat:Int) b115 (0:Int) (0:Int) ([]:List UInt8) (0:Int) (0:Int) μ112) (kB ρ 58 H58 [.block 0,.seq (cA 58 [1,1,1])])) pP) (
 opt (mW ρ a b (y1.toNat:Int) false (0:Int) (0:Int) ([]:List UInt8) (0:Int) (0:Int) μ29) (kB ρ 58 H58 [.block 0,.seq (cA 58 [1,1,1])]))) (
 opt (mW ρ a b (y1.toNat:Int) false (0:Int) (0:Int) ([]:List UInt8) (0:Int) (0:Int) μ29) (kB ρ 58 H58 [.block 0,.seq (cA 58 [1,1,1])])))) pP)) pP:=by kernel_rfl
theorem M2 (a b μ):aG E ρ 65 [LV.str a,LV.bool b] μ=
 cond (b) (
 callK (ρ.call 62 [LV.str a, LV.str ([48] : List UInt8)] μ) (fun v1 μ2 =>
 opt (aL v1) fun s5=>
 cond (decide (s5 = ([] : List UInt8))) (
 some (.ret (LV.str ([48]:List UInt8)) μ2)) (
 some (.ret (LV.str s5) μ2))) pP) (
 callK (ρ.call 63 [LV.str a, LV.str ([48] : List UInt8)] μ) (fun v6 μ7 =>
 opt (aL v6) fun s10=>
 cond (decide (s10 = ([] : List UInt8))) (
 some (.ret (LV.str ([48]:List UInt8)) μ7)) (
 some (.ret (LV.str s10) μ7))) pP):=by kernel_rfl
theorem O9 (a μ):aG E ρ 67 [LV.int .u8 a] μ=
 cond (decide ((48 : Int) ≤ a)) (
 some (.ret (LV.bool (decide (a≤(57:Int)))) μ)) (
 some (.ret (LV.bool false) μ)):=by kernel_rfl
def GH (x0:List UInt8):SegD:=⟨H69,[(0,0)],cA 69 [1,0,0,0],mS [(0,LV.str x0)] []⟩
def DE (x0:List UInt8)(μ:Mu):=(GH x0).loop ρ μ
def nT (x0:List UInt8)(μ:Mu):St:= .exit 0 (mS [(0,LV.str x0)] []) μ
theorem vv (x0 μ):(GH x0).rK ρ μ=
 cond (decide ((1 : Int) < (List.length x0 : Int))) (
 opt (a7 x0 (0:Int)) fun y1=>
 cond (decide ((y1.toNat : Int) = (48 : Int))) (
 opt (bZ x0 (1:Int) (List.length x0:Int)) fun s2=>
 DE ρ s2 μ) (
 some (nT x0 μ))) (
 some (nT x0 μ)):=by kernel_rfl
theorem EN (x0 μ):kB ρ 69 H69 [.block 0,.seq (cA 69 [1,1])] (nT x0 μ)=
 some (.ret (LV.str x0) μ):=by kernel_rfl
theorem Pa (a μ):aG E ρ 69 [LV.str a] μ=
 opt (DE ρ a μ) (kB ρ 69 H69 [.block 0,.seq (cA 69 [1,1])]):=by kernel_rfl
theorem Pb (a μ):aG E ρ 70 [LV.str a] μ=
 cond (decide (a = ([] : List UInt8))) (
 some (.ret (LV.str ([48]:List UInt8)) μ)) (
 some (.ret (LV.str a) μ)):=by kernel_rfl
def Gq (x0:Int):SegD:=⟨H71,[(0,0)],cA 71 [1,0,1,0,1],mS [(0,LV.int .i64 x0)] []⟩
def Kb (x0:Int)(μ:Mu):=(Gq x0).seg ρ μ
def sn (x2:List UInt8)(μ:Mu):St:= .ret (mS [(2,LV.str x2)] []) μ
def xR (pv:CV)(μ:Mu):St:= .panic pv (mS [] []) μ
def Gr (x0:Int):SegD:=⟨H71,[(2,0)],cA 71 [1,1],mS [(0,LV.int .i64 x0)] []⟩
def Kc (x0:Int)(μ:Mu):=(Gr x0).seg ρ μ
def nN (x2:List UInt8)(μ:Mu):St:= .ret (mS [(2,LV.str x2)] []) μ
def xS (pv:CV)(μ:Mu):St:= .panic pv (mS [] []) μ
theorem LG (x0 μ):(Gq x0).sK ρ μ=
 callK (ρ.call 71 [LV.int .i64 (IntKind.wrap .i64 (Int.tdiv x0 (10 : Int)))] μ) (fun v6 μ7 =>
 opt (aL v6) fun s10=>
 callK (ρ.call 71 [LV.int .i64 (IntKind.wrap .i64 (0 - Int.tmod x0 (10 : Int)))] μ7) (fun v11 μ12 =>
 opt (aL v11) fun s15=>
 ay (bf (List.length s10 + List.length s15)) (
 some (sn (s10++s15) μ12))) (pX xR)) (pX xR):=by kernel_rfl
theorem Ep (x2 μ):kB ρ 71 H71 [.seq (cA 71 [1,1])] (sn x2 μ)=
 some (.ret (LV.str x2) μ):=by kernel_rfl
theorem LH (x0 μ):(Gr x0).sK ρ μ=
 cond (decide ((9 : Int) < x0)) (
 callK (ρ.call 71 [LV.int .i64 (IntKind.wrap .i64 (Int.tdiv x0 (10 : Int)))] μ) (fun v17 μ18 =>
 opt (aL v17) fun s21=>
 callK (ρ.call 71 [LV.int .i64 (Int.tmod x0 (10 : Int))] μ18) (fun v22 μ23 =>
 opt (aL v22) fun s26=>
 ay (bf (List.length s21 + List.length s26)) (
 some (nN (s21++s26) μ23))) (pX xS)) (pX xS)) (
 opt (bZ ([48,49,50,51,52,53,54,55,56,57]:List UInt8) x0 (IntKind.wrap .i64 (x0+(1:Int)))) fun s27=>
 some (nN s27 μ)):=by kernel_rfl
theorem Er (x2 μ):kB ρ 71 H71 [] (nN x2 μ)=
 some (.ret (LV.str x2) μ):=by kernel_rfl
theorem M3 (a μ):aG E ρ 71 [LV.int .i64 a] μ=
 cond (decide (a < (0 : Int))) (
 cond (decide ((-10 : Int) < a)) (
 callK (ρ.call 71 [LV.int .i64 (IntKind.wrap .i64 (0 - a))] μ) (fun v1 μ2 =>
 opt (aL v1) fun s5=>
 ay (bf (List.length ([45] : List UInt8) + List.length s5)) (
 some (.ret (LV.str (([45]:List UInt8)++s5)) μ2))) pP) (
 opt (Kb ρ a μ) (kB ρ 71 H71 [.seq (cA 71 [1,1])]))) (
 opt (Kc ρ a μ) (kB ρ 71 H71 [])):=by kernel_rfl
def Gs (o0_0:List UInt8)(o0_1:Bool):SegD:=⟨H78,[(4,0),(5,0),(6,0)],cA 78 [1,1,1],mS [(7,LV.loc 0 0)] [Ob.cells [LV.str o0_0,LV.bool o0_1,LV.cv (CV.v (.slice none 0 0)),LV.cv (CV.v (.slice none 0 0))]]⟩
def Kd (o0_0:List UInt8)(o0_1:Bool)(μ:Mu):=(Gs o0_0 o0_1).seg ρ μ
def Gt (x9 x10:Int)(lam:Lam):SegD:=⟨H78,[(7,0)],cA 78 [1,1,1,0,1],mS [(7,LV.loc 0 0),(9,LV.int .i64 x9),(10,LV.int .i64 x10)] lam true⟩
def Ds (x9 x10:Int)(lam:Lam)(μ:Mu):=(Gt x9 x10 lam).seg ρ μ
def ss (x4_0:List UInt8)(x4_1:Bool)(x4_2 x4_3:List CV)(x5 x6:Int)(μ:Mu):St:= .ret (mS [(4,LV.cv (CV.view [CV.str x4_0,CV.bool x4_1,CV.sl x4_2,CV.sl x4_3])),(5,LV.int .i64 x5),(6,LV.int .i64 x6)] [Ob.dead] true) μ
def su (o0_0:List UInt8)(o0_1:Bool)(o0_2 o0_3:List CV)(μ:Mu):St:= .norm (mS [(7,LV.loc 0 0)] [Ob.cells [LV.str o0_0,LV.bool o0_1,LV.osl o0_2,LV.osl o0_3]] true) μ
def nO (x4_0:List UInt8)(x4_1:Bool)(x4_2 x4_3:List CV)(x5 x6:Int)(μ:Mu):St:= .ret (mS [(4,LV.cv (CV.view [CV.str x4_0,CV.bool x4_1,CV.sl x4_2,CV.sl x4_3])),(5,LV.int .i64 x5),(6,LV.int .i64 x6)] [Ob.dead] true) μ
def Gu (lam:Lam):SegD:=⟨H78,[(4,0),(5,0),(6,0)],cA 78 [1,1,1,1],mS [(7,LV.loc 0 0)] lam true⟩
def Dt (lam:Lam)(μ:Mu):=(Gu lam).seg ρ μ
def sv (x4_0:List UInt8)(x4_1:Bool)(x4_2 x4_3:List CV)(x5 x6:Int)(μ:Mu):St:= .ret (mS [(4,LV.cv (CV.view [CV.str x4_0,CV.bool x4_1,CV.sl x4_2,CV.sl x4_3])),(5,LV.int .i64 x5),(6,LV.int .i64 x6)] [Ob.dead] true) μ
def Cn (x7_0:List UInt8)(x7_1:Bool)(x7_2 x7_3:List CV)(lam:Lam):SegD:=⟨H78,[(4,0),(5,0),(6,0)],cA 78 [1,1,1,1,1],mS [(7,LV.cv (CV.view [CV.str x7_0,CV.bool x7_1,CV.sl x7_2,CV.sl x7_3]))] lam true⟩
def FE (x7_0:List UInt8)(x7_1:Bool)(x7_2 x7_3:List CV)(lam:Lam)(μ:Mu):=(Cn x7_0 x7_1 x7_2 x7_3 lam).seg ρ μ
def pE (x4_0:List UInt8)(x4_1:Bool)(x4_2 x4_3:List CV)(x5 x6:Int)(o0:Ob)(μ:Mu):St:= .ret (mS [(4,LV.cv (CV.view [CV.str x4_0,CV.bool x4_1,CV.sl x4_2,CV.sl x4_3])),(5,LV.int .i64 x5),(6,LV.int .i64 x6)] [o0] true) μ
def sw (x4_0:List UInt8)(x4_1:Bool)(x4_2 x4_3:List CV)(x5 x6:Int)(o0:Ob)(μ:Mu):St:= .ret (mS [(4,LV.cv (CV.view [CV.str x4_0,CV.bool x4_1,CV.sl x4_2,CV.sl x4_3])),(5,LV.int .i64 x5),(6,LV.int .i64 x6)] [o0] true) μ
def so (x4_0:List UInt8)(x4_1:Bool)(x4_2 x4_3:List CV)(x5 x6:Int)(o0:Ob)(μ:Mu):St:= .ret (mS [(4,LV.cv (CV.view [CV.str x4_0,CV.bool x4_1,CV.sl x4_2,CV.sl x4_3])),(5,LV.int .i64 x5),(6,LV.int .i64 x6)] [o0] true) μ
def Io (pv:CV)(lam:Lam)(μ:Mu):St:= .panic pv (mS [] lam true) μ
theorem CY (x9 x10:Int)(o0_0:List UInt8)(o0_1:Bool)(o0_2 o0_3:List CV)(μ:Mu):(Gt x9 x10 [Ob.cells [LV.str o0_0,LV.bool o0_1,LV.osl o0_2,LV.osl o0_3]]).sK ρ μ=
 cond (!decide (x10 = (0 : Int))) (
 some (ss o0_0 o0_1 o0_2 o0_3 x9 x10 μ)) (
 some (su o0_0 o0_1 o0_2 o0_3 μ)):=by kernel_rfl
theorem Eu (x4_0 x4_1 x4_2 x4_3 x5 x6 μ):kS ρ H78 [.seq (cA 78 [1,1,1,1])] [(4,0),(5,0),(6,0)] (ss x4_0 x4_1 x4_2 x4_3 x5 x6 μ)=
 some (nO x4_0 x4_1 x4_2 x4_3 x5 x6 μ):=by kernel_rfl
theorem Jo (x7_0:List UInt8)(x7_1:Bool)(x7_2 x7_3:List CV)(o0:Ob)(μ:Mu):(Cn x7_0 x7_1 x7_2 x7_3 [o0]).sK ρ μ=
 some (pE x7_0 x7_1 x7_2 x7_3 (List.length x7_2:Int) (0:Int) o0 μ):=by kernel_rfl
theorem Bh (x4_0 x4_1 x4_2 x4_3 x5 x6 o0 μ):kS ρ H78 [] [(4,0),(5,0),(6,0)] (pE x4_0 x4_1 x4_2 x4_3 x5 x6 o0 μ)=
 some (sw x4_0 x4_1 x4_2 x4_3 x5 x6 o0 μ):=by kernel_rfl
theorem CZ (o0_0:List UInt8)(o0_1:Bool)(o0_2 o0_3:List CV)(μ:Mu):(Gu [Ob.cells [LV.str o0_0,LV.bool o0_1,LV.osl o0_2,LV.osl o0_3]]).sK ρ μ=
 cond (decide ((300 : Int) < (List.length o0_2 : Int))) (
 some (sv o0_0 o0_1 o0_2 o0_3 (0:Int) (8:Int) μ)) (
 opt (FE ρ o0_0 o0_1 o0_2 o0_3 [Ob.dead] μ) (kS ρ H78 [] [(4,0),(5,0),(6,0)])):=by kernel_rfl
theorem Ew (x4_0 x4_1 x4_2 x4_3 x5 x6 μ):kS ρ H78 [] [(4,0),(5,0),(6,0)] (sv x4_0 x4_1 x4_2 x4_3 x5 x6 μ)=
 some (nO x4_0 x4_1 x4_2 x4_3 x5 x6 μ):=by kernel_rfl
theorem Ex (x4_0 x4_1 x4_2 x4_3 x5 x6 o0 μ):kS ρ H78 [] [(4,0),(5,0),(6,0)] (sw x4_0 x4_1 x4_2 x4_3 x5 x6 o0 μ)=
 some (so x4_0 x4_1 x4_2 x4_3 x5 x6 o0 μ):=by kernel_rfl
theorem Ev (o0_0 o0_1 o0_2 o0_3 μ):kS ρ H78 [.seq (cA 78 [1,1,1,1])] [(4,0),(5,0),(6,0)] (su o0_0 o0_1 o0_2 o0_3 μ)=
 opt (Dt ρ [Ob.cells [LV.str o0_0,LV.bool o0_1,LV.osl o0_2,LV.osl o0_3]] μ) (kS ρ H78 [] [(4,0),(5,0),(6,0)]):=by kernel_rfl
theorem LI (o0_0 o0_1 μ):(Gs o0_0 o0_1).sK ρ μ=
 callK (ρ.call 118 [LV.cv (CV.ref (List.length μ) 0 0)] (μ ++ [[Ob.cells [LV.str o0_0, LV.bool o0_1, LV.cv (CV.v (.slice none 0 0)), LV.cv (CV.v (.slice none 0 0))]]])) (fun v6 μ7 =>
 opt (gR μ7) fun q8=>
 opt (aS v6) fun xs12=>
 opt (az xs12) fun q13=>
 opt (aH .i64 q13.1) fun n14=>
 opt (az q13.2) fun q15=>
 opt (aH .i64 q15.1) fun n16=>
 opt (aO q15.2) fun u17=>
 EZ [(0,[0,0,1,1])] q8.2 fun lam18=>
 opt (Ds ρ n14 n16 lam18 q8.1) (kS ρ H78 [.seq (cA 78 [1,1,1,1])] [(4,0),(5,0),(6,0)])) (fun v10 μ9=>
 opt (gR μ9) fun q11=>
 some (Io v10 q11.2 q11.1)):=by kernel_rfl
theorem Es (x4_0 x4_1 x4_2 x4_3 x5 x6 μ):kB ρ 78 H78 [] (nO x4_0 x4_1 x4_2 x4_3 x5 x6 μ)=
 ay (eU (List.length μ) (LV.ltup [LV.cv (CV.view [CV.str x4_0,CV.bool x4_1,CV.sl x4_2,CV.sl x4_3]),LV.int .i64 x5,LV.int .i64 x6])) (some (.ret (LV.ltup [LV.cv (CV.view [CV.str x4_0,CV.bool x4_1,CV.sl x4_2,CV.sl x4_3]),LV.int .i64 x5,LV.int .i64 x6]) μ)):=by kernel_rfl
theorem Et (x4_0 x4_1 x4_2 x4_3 x5 x6 o0 μ):kB ρ 78 H78 [] (so x4_0 x4_1 x4_2 x4_3 x5 x6 o0 μ)=
 ay (eU (List.length μ) (LV.ltup [LV.cv (CV.view [CV.str x4_0,CV.bool x4_1,CV.sl x4_2,CV.sl x4_3]),LV.int .i64 x5,LV.int .i64 x6])) (some (.ret (LV.ltup [LV.cv (CV.view [CV.str x4_0,CV.bool x4_1,CV.sl x4_2,CV.sl x4_3]),LV.int .i64 x5,LV.int .i64 x6]) μ)):=by kernel_rfl
theorem Pc (a b μ):aG E ρ 78 [LV.str a,LV.bool b] μ=
 callK (ρ.call 117 [LV.str a] μ) (fun v1 μ2 =>
 opt (aH .i64 v1) fun n5=>
 cond (!decide (n5 = (0 : Int))) (
 some (.ret (LV.ltup [LV.cv (CV.view [CV.str a,CV.bool b,CV.v (.slice none 0 0),CV.v (.slice none 0 0)]),LV.int .i64 (0:Int),LV.int .i64 n5]) μ2)) (
 opt (Kd ρ a b μ2) (kB ρ 78 H78 []))) pP:=by kernel_rfl
theorem M4 (a b μ):aG E ρ 79 [LV.cv (CV.sl a),LV.int .i64 b] μ=
 callK (ρ.call 119 [LV.cv (CV.sl a), LV.int .i64 b] μ) (fun v1 μ2 =>
 opt (aH .i64 v1) fun n5=>
 some (.ret (LV.bool (decide ((0:Int)≤n5))) μ2)) pP:=by kernel_rfl
def GI (x0 x7:List UInt8)(x8:Int):SegD:=⟨H80,[(0,0),(7,0),(8,0)],cA 80 [1,1,1,0,0,0],mS [(0,LV.str x0),(7,LV.str x7),(8,LV.int .i64 x8)] []⟩
def qS (x0 x7:List UInt8)(x8:Int)(μ:Mu):=(GI x0 x7 x8).loop ρ μ
def nU (x0 x7:List UInt8)(x8:Int)(μ:Mu):St:= .exit 0 (mS [(0,LV.str x0),(7,LV.str x7),(8,LV.int .i64 x8)] []) μ
def It (pv:CV)(μ:Mu):St:= .panic pv (mS [] []) μ
def Gv (x7:List UInt8)(x8:Int):SegD:=⟨H80,[(4,0),(5,0),(6,0)],cA 80 [1,1,1,1,1],mS [(7,LV.str x7),(8,LV.int .i64 x8)] []⟩
def qQ (x7:List UInt8)(x8:Int)(μ:Mu):=(Gv x7 x8).seg ρ μ
def sx (x4 x5:Int)(x6:Bool)(μ:Mu):St:= .ret (mS [(4,LV.int .i64 x4),(5,LV.int .i64 x5),(6,LV.bool x6)] []) μ
def xT (pv:CV)(μ:Mu):St:= .panic pv (mS [] []) μ
theorem C8 (x0 x7 x8 μ):(GI x0 x7 x8).rK ρ μ=
 cond (decide (x8 < (List.length x0 : Int))) (
 opt (a7 x0 x8) fun y1=>
 callK (ρ.call 67 [LV.int .u8 (y1.toNat : Int)] μ) (fun v2 μ3 =>
 opt (aP v2) fun b6=>
 cond (b6) (
 opt (a7 x0 x8) fun y7=>
 cond (!decide ((y7.toNat : Int) = (32 : Int))) (
 opt (bZ x0 x8 (IntKind.wrap .i64 (x8+(1:Int)))) fun s8=>
 ay (bf (List.length x7 + List.length s8)) (
 qS ρ x0 (x7++s8) (IntKind.wrap .i64 (x8+(1:Int))) μ3)) (
 qS ρ x0 x7 (IntKind.wrap .i64 (x8+(1:Int))) μ3)) (
 opt (a7 x0 x8) fun y9=>
 cond (decide ((y9.toNat : Int) = (32 : Int))) (
 opt (a7 x0 x8) fun y10=>
 cond (!decide ((y10.toNat : Int) = (32 : Int))) (
 opt (bZ x0 x8 (IntKind.wrap .i64 (x8+(1:Int)))) fun s11=>
 ay (bf (List.length x7 + List.length s11)) (
 qS ρ x0 (x7++s11) (IntKind.wrap .i64 (x8+(1:Int))) μ3)) (
 qS ρ x0 x7 (IntKind.wrap .i64 (x8+(1:Int))) μ3)) (
 some (nU x0 x7 x8 μ3)))) (pX It)) (
 some (nU x0 x7 x8 μ)):=by kernel_rfl
theorem LJ (x7 x8 μ):(Gv x7 x8).sK ρ μ=
 callK (ρ.call 120 [LV.str x7] μ) (fun v14 μ15 =>
 opt (aH .i64 v14) fun n18=>
 callK (ρ.call 23 [LV.int .i64 n18, LV.int .i64 (1 : Int), LV.int .i64 (60 : Int)] μ15) (fun v19 μ20 =>
 opt (aP v19) fun b23=>
 some (sx n18 (IntKind.wrap .i64 (x8+(1:Int))) b23 μ20)) (pX xT)) (pX xT):=by kernel_rfl
theorem Ey (x4 x5 x6 μ):kB ρ 80 H80 [] (sx x4 x5 x6 μ)=
 some (.ret (LV.ltup [LV.int .i64 x4,LV.int .i64 x5,LV.bool x6]) μ):=by kernel_rfl
theorem oF (x0 x7 x8 μ):kB ρ 80 H80 [.block 0,.seq (cA 80 [1,1,1,1])] (nU x0 x7 x8 μ)=
 cond (decide ((List.length x7 : Int) < (1 : Int))) (
 some (.ret (LV.ltup [LV.int .i64 (0:Int),LV.int .i64 (0:Int),LV.bool false]) μ)) (
 cond (decide ((2 : Int) < (List.length x7 : Int))) (
 some (.ret (LV.ltup [LV.int .i64 (0:Int),LV.int .i64 (0:Int),LV.bool false]) μ)) (
 cond (decide ((List.length x0 : Int) ≤ x8)) (
 some (.ret (LV.ltup [LV.int .i64 (0:Int),LV.int .i64 (0:Int),LV.bool false]) μ)) (
 opt (a7 x0 x8) fun y12=>
 cond (!decide ((y12.toNat : Int) = (72 : Int))) (
 opt (a7 x0 x8) fun y13=>
 cond (!decide ((y13.toNat : Int) = (104 : Int))) (
 some (.ret (LV.ltup [LV.int .i64 (0:Int),LV.int .i64 (0:Int),LV.bool false]) μ)) (
 opt (qQ ρ x7 x8 μ) (kB ρ 80 H80 []))) (
 opt (qQ ρ x7 x8 μ) (kB ρ 80 H80 []))))):=by kernel_rfl
theorem I2 (a b μ):aG E ρ 80 [LV.str a,LV.int .i64 b] μ=
 opt (qS ρ a ([]:List UInt8) b μ) (kB ρ 80 H80 [.block 0,.seq (cA 80 [1,1,1,1])]):=by kernel_rfl
def GJ (x0:List UInt8)(x5:Int)(x6:List UInt8)(x7 o0_0 o0_1:Int)(o0_2:List UInt8)(o0_3 o0_4:Int):SegD:=⟨H81,[(4,0)],cA 81 [1,1,1,0,1,0,0],mS [(0,LV.str x0),(4,LV.loc 0 0),(5,LV.int .u8 x5),(6,LV.str x6),(7,LV.int .i64 x7)] [Ob.cells [LV.int .i64 o0_0,LV.int .i64 o0_1,LV.str o0_2,LV.int .i64 o0_3,LV.int .i64 o0_4]]⟩
def w7 (x0:List UInt8)(x5:Int)(x6:List UInt8)(x7 o0_0 o0_1:Int)(o0_2:List UInt8)(o0_3 o0_4:Int)(μ:Mu):=(GJ x0 x5 x6 x7 o0_0 o0_1 o0_2 o0_3 o0_4).loop ρ μ
def Gw (x0:List UInt8)(x5:Int)(x6:List UInt8)(x7 o0_0 o0_1:Int)(o0_2:List UInt8)(o0_3 o0_4:Int):SegD:=⟨H81,[(0,0),(4,0),(5,0),(6,0),(7,0)],cA 81 [1,1,1,0,1,0,0,1,0,0,1],mS [(0,LV.str x0),(4,LV.loc 0 0),(5,LV.int .u8 x5),(6,LV.str x6),(7,LV.int .i64 x7)] [Ob.cells [LV.int .i64 o0_0,LV.int .i64 o0_1,LV.str o0_2,LV.int .i64 o0_3,LV.int .i64 o0_4]]⟩
def Du (x0:List UInt8)(x5:Int)(x6:List UInt8)(x7 o0_0 o0_1:Int)(o0_2:List UInt8)(o0_3 o0_4:Int)(μ:Mu):=(Gw x0 x5 x6 x7 o0_0 o0_1 o0_2 o0_3 o0_4).seg ρ μ
def sy (x0:List UInt8)(x5:Int)(x6:List UInt8)(x7 o0_0 o0_1:Int)(o0_2:List UInt8)(o0_3 o0_4:Int)(μ:Mu):St:= .exit 1 (mS [(0,LV.str x0),(4,LV.loc 0 0),(5,LV.int .u8 x5),(6,LV.str x6),(7,LV.int .i64 x7)] [Ob.cells [LV.int .i64 o0_0,LV.int .i64 o0_1,LV.str o0_2,LV.int .i64 o0_3,LV.int .i64 o0_4]]) μ
def Co (x6:List UInt8)(x7 o0_0 o0_1:Int)(o0_2:List UInt8)(o0_3 o0_4:Int):SegD:=⟨H81,[(0,0),(4,0),(5,0),(6,0),(7,0)],cA 81 [1,1,1,0,1,0,0,1,0,0,1,1],mS [(4,LV.loc 0 0),(6,LV.str x6),(7,LV.int .i64 x7)] [Ob.cells [LV.int .i64 o0_0,LV.int .i64 o0_1,LV.str o0_2,LV.int .i64 o0_3,LV.int .i64 o0_4]]⟩
def tu (x6:List UInt8)(x7 o0_0 o0_1:Int)(o0_2:List UInt8)(o0_3 o0_4:Int)(μ:Mu):=(Co x6 x7 o0_0 o0_1 o0_2 o0_3 o0_4).seg ρ μ
def l5 (o0_0 o0_1:Int)(o0_2:List UInt8)(o0_3 o0_4:Int)(μ:Mu):St:= .ret (mS [(4,LV.loc 0 0)] [Ob.cells [LV.int .i64 o0_0,LV.int .i64 o0_1,LV.str o0_2,LV.int .i64 o0_3,LV.int .i64 o0_4]]) μ
def Cp (x6:List UInt8)(x7 o0_0 o0_1:Int)(o0_2:List UInt8)(o0_3 o0_4:Int):SegD:=⟨H81,[(0,0),(4,0),(5,0),(6,0),(7,0)],cA 81 [1,1,1,0,1,0,0,1,0,0,1,1,1],mS [(4,LV.loc 0 0),(6,LV.str x6),(7,LV.int .i64 x7)] [Ob.cells [LV.int .i64 o0_0,LV.int .i64 o0_1,LV.str o0_2,LV.int .i64 o0_3,LV.int .i64 o0_4]]⟩
def FF (x6:List UInt8)(x7 o0_0 o0_1:Int)(o0_2:List UInt8)(o0_3 o0_4:Int)(μ:Mu):=(Cp x6 x7 o0_0 o0_1 o0_2 o0_3 o0_4).seg ρ μ
def pF (o0_0 o0_1:Int)(o0_2:List UInt8)(o0_3 o0_4:Int)(μ:Mu):St:= .ret (mS [(4,LV.loc 0 0)] [Ob.cells [LV.int .i64 o0_0,LV.int .i64 o0_1,LV.str o0_2,LV.int .i64 o0_3,LV.int .i64 o0_4]]) μ
def FV (pv:CV)(μ:Mu):St:= .panic pv (mS [] []) μ
def nP (o0_0 o0_1:Int)(o0_2:List UInt8)(o0_3 o0_4:Int)(μ:Mu):St:= .ret (mS [(4,LV.loc 0 0)] [Ob.cells [LV.int .i64 o0_0,LV.int .i64 o0_1,LV.str o0_2,LV.int .i64 o0_3,LV.int .i64 o0_4]]) μ
def sJ (o0_0 o0_1:Int)(o0_2:List UInt8)(o0_3 o0_4:Int)(μ:Mu):St:= .ret (mS [(4,LV.loc 0 0)] [Ob.cells [LV.int .i64 o0_0,LV.int .i64 o0_1,LV.str o0_2,LV.int .i64 o0_3,LV.int .i64 o0_4]]) μ
def sL (o0_0 o0_1:Int)(o0_2:List UInt8)(o0_3 o0_4:Int)(μ:Mu):St:= .exit 0 (mS [(4,LV.loc 0 0)] [Ob.cells [LV.int .i64 o0_0,LV.int .i64 o0_1,LV.str o0_2,LV.int .i64 o0_3,LV.int .i64 o0_4]]) μ
theorem Jq (x6 x7 o0_0 o0_1 o0_2 o0_3 o0_4 μ):(Cp x6 x7 o0_0 o0_1 o0_2 o0_3 o0_4).sK ρ μ=
 callK (ρ.call 42 [LV.str x6] μ) (fun v6 μ7 =>
 opt (aL v6) fun s10=>
 some (pF (1:Int) (6:Int) s10 (IntKind.wrap .i64 (x7+(1:Int))) (0:Int) μ7)) (pX FV):=by kernel_rfl
theorem Bi (o0_0 o0_1 o0_2 o0_3 o0_4 μ):kS ρ H81 [] [(0,0),(4,0),(5,0),(6,0),(7,0)] (pF o0_0 o0_1 o0_2 o0_3 o0_4 μ)=
 some (l5 o0_0 o0_1 o0_2 o0_3 o0_4 μ):=by kernel_rfl
theorem Jp (x6 x7 o0_0 o0_1 o0_2 o0_3 o0_4 μ):(Co x6 x7 o0_0 o0_1 o0_2 o0_3 o0_4).sK ρ μ=
 cond (decide ((60 : Int) < (List.length x6 : Int))) (
 some (l5 (0:Int) (0:Int) ([]:List UInt8) (0:Int) (8:Int) μ)) (
 opt (FF ρ x6 x7 o0_0 o0_1 o0_2 o0_3 o0_4 μ) (kS ρ H81 [] [(0,0),(4,0),(5,0),(6,0),(7,0)])):=by kernel_rfl
theorem rI (o0_0 o0_1 o0_2 o0_3 o0_4 μ):kS ρ H81 [] [(0,0),(4,0),(5,0),(6,0),(7,0)] (l5 o0_0 o0_1 o0_2 o0_3 o0_4 μ)=
 some (nP o0_0 o0_1 o0_2 o0_3 o0_4 μ):=by kernel_rfl
theorem C0 (x0 x5 x6 x7 o0_0 o0_1 o0_2 o0_3 o0_4 μ):(Gw x0 x5 x6 x7 o0_0 o0_1 o0_2 o0_3 o0_4).sK ρ μ=
 cond (decide (IntKind.wrap .i64 (x7 + (1 : Int)) < (List.length x0 : Int))) (
 opt (a7 x0 (IntKind.wrap .i64 (x7+(1:Int)))) fun y4=>
 cond (decide ((y4.toNat : Int) = x5)) (
 opt (bZ x0 x7 (IntKind.wrap .i64 (x7+(1:Int)))) fun s5=>
 ay (bf (List.length x6 + List.length s5)) (
 some (sy x0 x5 (x6++s5) (IntKind.wrap .i64 (x7+(1:Int))) o0_0 o0_1 o0_2 o0_3 o0_4 μ))) (
 opt (tu ρ x6 x7 o0_0 o0_1 o0_2 o0_3 o0_4 μ) (kS ρ H81 [] [(0,0),(4,0),(5,0),(6,0),(7,0)]))) (
 opt (tu ρ x6 x7 o0_0 o0_1 o0_2 o0_3 o0_4 μ) (kS ρ H81 [] [(0,0),(4,0),(5,0),(6,0),(7,0)])):=by kernel_rfl
theorem Ez (x0 x5 x6 x7 o0_0 o0_1 o0_2 o0_3 o0_4 μ):kR ρ H81 [.block 1,.seq (cA 81 [1,1,1,0,1,0,0,1,1])] [(4,0)] (cA 81 [1,1,1,0,1,0,0]) (sy x0 x5 x6 x7 o0_0 o0_1 o0_2 o0_3 o0_4 μ)=
 w7 ρ x0 x5 x6 (IntKind.wrap .i64 (x7+(1:Int))) o0_0 o0_1 o0_2 o0_3 o0_4 μ:=by kernel_rfl
theorem ul (o0_0 o0_1 o0_2 o0_3 o0_4 μ):kR ρ H81 [.block 1,.seq (cA 81 [1,1,1,0,1,0,0,1,1])] [(4,0)] (cA 81 [1,1,1,0,1,0,0]) (nP o0_0 o0_1 o0_2 o0_3 o0_4 μ)=
 some (sJ o0_0 o0_1 o0_2 o0_3 o0_4 μ):=by kernel_rfl
theorem C9 (x0 x5 x6 x7 o0_0 o0_1 o0_2 o0_3 o0_4 μ):(GJ x0 x5 x6 x7 o0_0 o0_1 o0_2 o0_3 o0_4).rK ρ μ=
 cond (decide (x7 < (List.length x0 : Int))) (
 opt (a7 x0 x7) fun y2=>
 cond (!decide ((y2.toNat : Int) = x5)) (
 opt (bZ x0 x7 (IntKind.wrap .i64 (x7+(1:Int)))) fun s3=>
 ay (bf (List.length x6 + List.length s3)) (
 w7 ρ x0 x5 (x6++s3) (IntKind.wrap .i64 (x7+(1:Int))) o0_0 o0_1 o0_2 o0_3 o0_4 μ)) (
 opt (Du ρ x0 x5 x6 x7 o0_0 o0_1 o0_2 o0_3 o0_4 μ) (kR ρ H81 [.block 1,.seq (cA 81 [1,1,1,0,1,0,0,1,1])] [(4,0)] (cA 81 [1,1,1,0,1,0,0])))) (
 some (sL o0_0 o0_1 o0_2 o0_3 o0_4 μ)):=by kernel_rfl
theorem un (o0_0 o0_1 o0_2 o0_3 o0_4 μ):kB ρ 81 H81 [.block 0,.seq (cA 81 [1,1,1,1])] (sJ o0_0 o0_1 o0_2 o0_3 o0_4 μ)=
 some (.ret (LV.cv (CV.agg [CV.int .i64 o0_0,CV.int .i64 o0_1,CV.str o0_2,CV.int .i64 o0_3,CV.int .i64 o0_4])) μ):=by kernel_rfl
theorem EO (o0_0 o0_1 o0_2 o0_3 o0_4 μ):kB ρ 81 H81 [.block 0,.seq (cA 81 [1,1,1,1])] (sL o0_0 o0_1 o0_2 o0_3 o0_4 μ)=
 some (.ret (LV.cv (CV.agg [CV.int .i64 (0:Int),CV.int .i64 (0:Int),CV.str ([]:List UInt8),CV.int .i64 (0:Int),CV.int .i64 (7:Int)])) μ):=by kernel_rfl
theorem Pd (a b μ):aG E ρ 81 [LV.str a,LV.int .i64 b] μ=
 opt (a7 a b) fun y1=>
 opt (w7 ρ a (y1.toNat:Int) ([]:List UInt8) (IntKind.wrap .i64 (b+(1:Int))) (0:Int) (0:Int) ([]:List UInt8) (0:Int) (0:Int) μ) (kB ρ 81 H81 [.block 0,.seq (cA 81 [1,1,1,1])]):=by kernel_rfl
def GK (x0 x6:List UInt8)(x7:List CV)(x8:Int):SegD:=⟨H82,[(6,0),(7,1)],cA 82 [1,1,1,0,1,0,0],mS [(0,LV.str x0),(6,LV.str x6),(7,LV.osl x7),(8,LV.int .i64 x8)] []⟩
def w8 (x0 x6:List UInt8)(x7:List CV)(x8:Int)(μ:Mu):=(GK x0 x6 x7 x8).loop ρ μ
def lr (x6:List UInt8)(x7:List CV)(μ:Mu):St:= .exit 0 (mS [(6,LV.str x6),(7,LV.osl x7)] []) μ
theorem Da (x0 x6 x7 x8 μ):(GK x0 x6 x7 x8).rK ρ μ=
 cond (decide (x8 < (List.length x0 : Int))) (
 opt (a7 x0 x8) fun y1=>
 cond (decide ((y1.toNat : Int) = (32 : Int))) (
 w8 ρ x0 x6 x7 (IntKind.wrap .i64 (x8+(1:Int))) μ) (
 opt (bZ x0 x8 (IntKind.wrap .i64 (x8+(1:Int)))) fun s2=>
 ay (bf (List.length x6 + List.length s2)) (
 ay (dQ 1 x7 [CV.int .i64 x8]) (
 opt (a7 x0 x8) fun y3=>
 cond (decide ((y3.toNat : Int) = (39 : Int))) (
 some (lr (x6++s2) (x7++[CV.int .i64 x8]) μ)) (
 opt (a7 x0 x8) fun y4=>
 cond (decide ((y4.toNat : Int) = (34 : Int))) (
 some (lr (x6++s2) (x7++[CV.int .i64 x8]) μ)) (
 w8 ρ x0 (x6++s2) (x7++[CV.int .i64 x8]) (IntKind.wrap .i64 (x8+(1:Int))) μ)))))) (
 some (lr x6 x7 μ)):=by kernel_rfl
theorem EP (x6 x7 μ):kB ρ 82 H82 [.block 0,.seq (cA 82 [1,1,1,1])] (lr x6 x7 μ)=
 some (.ret (LV.ltup [LV.str x6,LV.cv (CV.sl x7)]) μ):=by kernel_rfl
theorem Pe (a b μ):aG E ρ 82 [LV.str a,LV.int .i64 b] μ=
 opt (w8 ρ a ([]:List UInt8) [] b μ) (kB ρ 82 H82 [.block 0,.seq (cA 82 [1,1,1,1])]):=by kernel_rfl
theorem Pf (a μ):aG E ρ 85 [LV.str a] μ=
 callK (ρ.call 43 [LV.str a, LV.cv (CV.clo 122 [])] μ) (fun v1 μ2 =>
 opt (aP v1) fun b5=>
 some (.ret (LV.bool (!b5)) μ2)) pP:=by kernel_rfl
theorem Pg (a μ):aG E ρ 86 [LV.str a] μ=
 callK (ρ.call 84 [LV.str a, LV.str ([39] : List UInt8), LV.str ([39, 39] : List UInt8)] μ) (fun v1 μ2 =>
 opt (aL v1) fun s5=>
 ay (bf (List.length ([39] : List UInt8) + List.length s5)) (
 ay (bf (List.length (([39] : List UInt8) ++ s5) + List.length ([39] : List UInt8))) (
 some (.ret (LV.cv (CV.agg [CV.int .i64 (1:Int),CV.int .i64 (6:Int),CV.str ((([39]:List UInt8)++s5)++([39]:List UInt8))])) μ2)))) pP:=by kernel_rfl
theorem Ph (a μ):aG E ρ 90 [LV.int .u8 a] μ=
 cond (decide ((97 : Int) ≤ a)) (
 cond (decide (a ≤ (122 : Int))) (
 some (.ret (LV.bool true) μ)) (
 cond (decide ((65 : Int) ≤ a)) (
 some (.ret (LV.bool (decide (a≤(90:Int)))) μ)) (
 some (.ret (LV.bool false) μ)))) (
 cond (decide ((65 : Int) ≤ a)) (
 some (.ret (LV.bool (decide (a≤(90:Int)))) μ)) (
 some (.ret (LV.bool false) μ))):=by kernel_rfl
theorem Pi (a μ):aG E ρ 93 [LV.int .u8 a] μ=
 callK (ρ.call 90 [LV.int .u8 a] μ) (fun v1 μ2 =>
 opt (aP v1) fun b5=>
 cond (b5) (
 some (.ret (LV.bool true) μ2)) (
 callK (ρ.call 132 [LV.int .u8 a] μ2) (fun v6 μ7 =>
 opt (aP v6) fun b10=>
 cond (b10) (
 some (.ret (LV.bool true) μ7)) (
 some (.ret (LV.bool (decide (a=(95:Int)))) μ7))) pP)) pP:=by kernel_rfl
def GL (x0:List CV)(x1:List UInt8)(x7 x8:Int):SegD:=⟨H94,[],cA 94 [1,0,1,0,0],mS [(0,LV.cv (CV.sl x0)),(1,LV.str x1),(7,LV.int .i64 x7),(8,LV.int .i64 x8)] []⟩
def DF (x0:List CV)(x1:List UInt8)(x7 x8:Int)(μ:Mu):=(GL x0 x1 x7 x8).loop ρ μ
def sM (x4:Int)(μ:Mu):St:= .ret (mS [(4,LV.int .i64 x4)] []) μ
def sN (μ:Mu):St:= .exit 0 (mS [] []) μ
theorem Db (x0 x1 x7 x8 μ):(GL x0 x1 x7 x8).rK ρ μ=
 cond (decide (x8 < x7)) (
 opt (cE x0 x8) fun c1=>
 opt (aL (LV.cv c1)) fun s2=>
 cond (decide (x1 = s2)) (
 some (sM x8 μ)) (
 DF ρ x0 x1 x7 (IntKind.wrap .i64 (x8+(1:Int))) μ)) (
 some (sN μ)):=by kernel_rfl
theorem ES (x4 μ):kB ρ 94 H94 [.block 0,.seq (cA 94 [1,1])] (sM x4 μ)=
 some (.ret (LV.int .i64 x4) μ):=by kernel_rfl
theorem ET (μ):kB ρ 94 H94 [.block 0,.seq (cA 94 [1,1])] (sN μ)=
 some (.ret (LV.int .i64 (-1:Int)) μ):=by kernel_rfl
theorem Pj (a b μ):aG E ρ 94 [LV.cv (CV.sl a),LV.str b] μ=
 opt (DF ρ a b (List.length a:Int) (0:Int) μ) (kB ρ 94 H94 [.block 0,.seq (cA 94 [1,1])]):=by kernel_rfl
theorem Pk (a μ):aG E ρ 96 [LV.int .u8 a] μ=
 cond (decide ((65 : Int) ≤ a)) (
 cond (decide (a ≤ (90 : Int))) (
 some (.ret (LV.bool true) μ)) (
 cond (decide ((97 : Int) ≤ a)) (
 some (.ret (LV.bool (decide (a≤(122:Int)))) μ)) (
 some (.ret (LV.bool false) μ)))) (
 cond (decide ((97 : Int) ≤ a)) (
 some (.ret (LV.bool (decide (a≤(122:Int)))) μ)) (
 some (.ret (LV.bool false) μ))):=by kernel_rfl
def GM (x3:Nat)(x4:Int)(o0:List CV):SegD:=⟨H97,[(3,0)],cA 97 [1,1,0,1,0,0],mS [(3,LV.lsl 0 0 x3),(4,LV.int .i64 x4)] [Ob.arr 1 o0]⟩
def qT (x3:Nat)(x4:Int)(o0:List CV)(μ:Mu):=(GM x3 x4 o0).loop ρ μ
def nW (x3:Nat)(o0:List CV)(μ:Mu):St:= .exit 0 (mS [(3,LV.lsl 0 0 x3)] [Ob.arr 1 o0]) μ
theorem Dc (x3 x4 o0 μ):(GM x3 x4 o0).rK ρ μ=
 cond (decide (x4 < (x3 : Int))) (
 ay (dR x4 x3) (
 opt (bv E.P 5 (Ob.arr 1 o0) (0+(x4).toNat*1)) fun v1=>
 opt (aH .u8 v1) fun n2=>
 cond (decide ((97 : Int) ≤ n2)) (
 ay (dR x4 x3) (
 opt (bv E.P 5 (Ob.arr 1 o0) (0+(x4).toNat*1)) fun v3=>
 opt (aH .u8 v3) fun n4=>
 cond (decide (n4 ≤ (122 : Int))) (
 ay (dR x4 x3) (
 opt (bv E.P 5 (Ob.arr 1 o0) (0+(x4).toNat*1)) fun v5=>
 opt (aH .u8 v5) fun n6=>
 ay (dR x4 x3) (
 ay (eH 1 (CV.int .u8 (IntKind.wrap .u8 (IntKind.wrap .u8 (n6 - (97 : Int)) + (65 : Int)))) && Nat.ble (0 + (x4).toNat * 1 + 1) (List.length o0)) (
 qT ρ x3 (IntKind.wrap .i64 (x4+(1:Int))) (cz o0 (0+(x4).toNat*1) (CV.cells (CV.int .u8 (IntKind.wrap .u8 (IntKind.wrap .u8 (n6-(97:Int))+(65:Int)))))) μ)))) (
 qT ρ x3 (IntKind.wrap .i64 (x4+(1:Int))) o0 μ))) (
 qT ρ x3 (IntKind.wrap .i64 (x4+(1:Int))) o0 μ))) (
 some (nW x3 o0 μ)):=by kernel_rfl
theorem EU (x3 o0 μ):kB ρ 97 H97 [.block 0,.seq (cA 97 [1,1,1])] (nW x3 o0 μ)=
 ay (Nat.ble (0 + x3) (List.length o0)) (
 opt (bb (List.take x3 (List.drop 0 o0))) fun s7=>
 some (.ret (LV.str s7) μ)):=by kernel_rfl
theorem Pm (a μ):aG E ρ 97 [LV.str a] μ=
 ay (bf (List.length a)) (
 opt (qT ρ (List.length a) (0:Int) (bd a) μ) (kB ρ 97 H97 [.block 0,.seq (cA 97 [1,1,1])])):=by kernel_rfl
def GN (x0:List UInt8)(x1 x5 x6:Int)(x7:Bool)(x30:List CV)(x31 x32 o0_0 o0_1:Int)(o0_2:List UInt8)(o0_3 o0_4:Int):SegD:=⟨H98,[(0,0),(1,0),(4,0),(5,0),(6,0),(7,0)],cA 98 [1,1,1,1,0,1,0,0],mS [(0,LV.str x0),(1,LV.int .i64 x1),(4,LV.loc 0 0),(5,LV.int .i64 x5),(6,LV.int .i64 x6),(7,LV.bool x7),(30,LV.cv (CV.sl x30)),(31,LV.int .i64 x31),(32,LV.int .i64 x32)] [Ob.cells [LV.int .i64 o0_0,LV.int .i64 o0_1,LV.str o0_2,LV.int .i64 o0_3,LV.int .i64 o0_4]]⟩
def tz (x0:List UInt8)(x1 x5 x6:Int)(x7:Bool)(x30:List CV)(x31 x32 o0_0 o0_1:Int)(o0_2:List UInt8)(o0_3 o0_4:Int)(μ:Mu):=(GN x0 x1 x5 x6 x7 x30 x31 x32 o0_0 o0_1 o0_2 o0_3 o0_4).loop ρ μ
def Iu (pv:CV)(μ:Mu):St:= .panic pv (mS [] []) μ
def sO (x0:List UInt8)(x1 x5 x6:Int)(x7:Bool)(o0_0 o0_1:Int)(o0_2:List UInt8)(o0_3 o0_4:Int)(μ:Mu):St:= .exit 0 (mS [(0,LV.str x0),(1,LV.int .i64 x1),(4,LV.loc 0 0),(5,LV.int .i64 x5),(6,LV.int .i64 x6),(7,LV.bool x7)] [Ob.cells [LV.int .i64 o0_0,LV.int .i64 o0_1,LV.str o0_2,LV.int .i64 o0_3,LV.int .i64 o0_4]]) μ
def Cq (x0:List UInt8)(x1 x5 x6:Int)(x7 x10:Bool)(x11 o0_0 o0_1:Int)(o0_2:List UInt8)(o0_3 o0_4:Int):SegD:=⟨H98,[(4,0)],cA 98 [1,1,1,1,1,1,1],mS [(0,LV.str x0),(1,LV.int .i64 x1),(4,LV.loc 0 0),(5,LV.int .i64 x5),(6,LV.int .i64 x6),(7,LV.bool x7),(10,LV.bool x10),(11,LV.int .i64 x11)] [Ob.cells [LV.int .i64 o0_0,LV.int .i64 o0_1,LV.str o0_2,LV.int .i64 o0_3,LV.int .i64 o0_4]]⟩
def mX (x0:List UInt8)(x1 x5 x6:Int)(x7 x10:Bool)(x11 o0_0 o0_1:Int)(o0_2:List UInt8)(o0_3 o0_4:Int)(μ:Mu):=(Cq x0 x1 x5 x6 x7 x10 x11 o0_0 o0_1 o0_2 o0_3 o0_4).seg ρ μ
def Cr (x0:List UInt8)(x1 x5 x6:Int)(x10:Bool)(x11 x12 x13:Int)(x14:Bool)(x15 o0_0 o0_1:Int)(o0_2:List UInt8)(o0_3 o0_4:Int):SegD:=⟨H98,[(0,0),(1,0),(4,0),(5,0),(6,0),(10,0),(11,0),(12,0),(13,0),(14,0)],cA 98 [1,1,1,1,1,1,1,1,1,0,1,0,1,1],mS [(0,LV.str x0),(1,LV.int .i64 x1),(4,LV.loc 0 0),(5,LV.int .i64 x5),(6,LV.int .i64 x6),(10,LV.bool x10),(11,LV.int .i64 x11),(12,LV.int .i64 x12),(13,LV.int .i64 x13),(14,LV.bool x14),(15,LV.int .i64 x15)] [Ob.cells [LV.int .i64 o0_0,LV.int .i64 o0_1,LV.str o0_2,LV.int .i64 o0_3,LV.int .i64 o0_4]]⟩
def cO (x0:List UInt8)(x1 x5 x6:Int)(x10:Bool)(x11 x12 x13:Int)(x14:Bool)(x15 o0_0 o0_1:Int)(o0_2:List UInt8)(o0_3 o0_4:Int)(μ:Mu):=(Cr x0 x1 x5 x6 x10 x11 x12 x13 x14 x15 o0_0 o0_1 o0_2 o0_3 o0_4).seg ρ μ
def pG (o0_0 o0_1:Int)(o0_2:List UInt8)(o0_3 o0_4:Int)(μ:Mu):St:= .ret (mS [(4,LV.loc 0 0)] [Ob.cells [LV.int .i64 o0_0,LV.int .i64 o0_1,LV.str o0_2,LV.int .i64 o0_3,LV.int .i64 o0_4]]) μ
def Cs (x0:List UInt8)(x1 x5 x6:Int)(x10:Bool)(x11 x12 x15 x16 o0_0 o0_1:Int)(o0_2:List UInt8)(o0_3 o0_4:Int):SegD:=⟨H98,[(0,0),(1,0),(4,0),(5,0),(6,0),(10,0),(11,0),(12,0),(13,0),(14,0)],cA 98 [1,1,1,1,1,1,1,1,1,0,1,0,1,1,1,1,0,1],mS [(0,LV.str x0),(1,LV.int .i64 x1),(4,LV.loc 0 0),(5,LV.int .i64 x5),(6,LV.int .i64 x6),(10,LV.bool x10),(11,LV.int .i64 x11),(12,LV.int .i64 x12),(15,LV.int .i64 x15),(16,LV.int .i64 x16)] [Ob.cells [LV.int .i64 o0_0,LV.int .i64 o0_1,LV.str o0_2,LV.int .i64 o0_3,LV.int .i64 o0_4]]⟩
def FG (x0:List UInt8)(x1 x5 x6:Int)(x10:Bool)(x11 x12 x15 x16 o0_0 o0_1:Int)(o0_2:List UInt8)(o0_3 o0_4:Int)(μ:Mu):=(Cs x0 x1 x5 x6 x10 x11 x12 x15 x16 o0_0 o0_1 o0_2 o0_3 o0_4).seg ρ μ
def Ct (x0:List UInt8)(x1 x5 x6:Int)(x10:Bool)(x11 x12 x13:Int)(x14:Bool)(x15 x16 o0_0 o0_1:Int)(o0_2:List UInt8)(o0_3 o0_4:Int):SegD:=⟨H98,[(0,0),(1,0),(4,0),(5,0),(6,0),(10,0),(11,0),(12,0),(13,0),(14,0)],cA 98 [1,1,1,1,1,1,1,1,1,0,1,0,1,1,1,1,0,1,1,1,1],mS [(0,LV.str x0),(1,LV.int .i64 x1),(4,LV.loc 0 0),(5,LV.int .i64 x5),(6,LV.int .i64 x6),(10,LV.bool x10),(11,LV.int .i64 x11),(12,LV.int .i64 x12),(13,LV.int .i64 x13),(14,LV.bool x14),(15,LV.int .i64 x15),(16,LV.int .i64 x16)] [Ob.cells [LV.int .i64 o0_0,LV.int .i64 o0_1,LV.str o0_2,LV.int .i64 o0_3,LV.int .i64 o0_4]]⟩
def xB (x0:List UInt8)(x1 x5 x6:Int)(x10:Bool)(x11 x12 x13:Int)(x14:Bool)(x15 x16 o0_0 o0_1:Int)(o0_2:List UInt8)(o0_3 o0_4:Int)(μ:Mu):=(Ct x0 x1 x5 x6 x10 x11 x12 x13 x14 x15 x16 o0_0 o0_1 o0_2 o0_3 o0_4).seg ρ μ
def j7 (x0:List UInt8)(x1 x5 x6:Int)(x10:Bool)(x11 x12 x13:Int)(x14:Bool)(o0_0 o0_1:Int)(o0_2:List UInt8)(o0_3 o0_4:Int)(μ:Mu):St:= .norm (mS [(0,LV.str x0),(1,LV.int .i64 x1),(4,LV.loc 0 0),(5,LV.int .i64 x5),(6,LV.int .i64 x6),(10,LV.bool x10),(11,LV.int .i64 x11),(12,LV.int .i64 x12),(13,LV.int .i64 x13),(14,LV.bool x14)] [Ob.cells [LV.int .i64 o0_0,LV.int .i64 o0_1,LV.str o0_2,LV.int .i64 o0_3,LV.int .i64 o0_4]]) μ
def pH (x0:List UInt8)(x1 x5 x6:Int)(x10:Bool)(x11 x12 x13:Int)(x14:Bool)(o0_0 o0_1:Int)(o0_2:List UInt8)(o0_3 o0_4:Int)(μ:Mu):St:= .norm (mS [(0,LV.str x0),(1,LV.int .i64 x1),(4,LV.loc 0 0),(5,LV.int .i64 x5),(6,LV.int .i64 x6),(10,LV.bool x10),(11,LV.int .i64 x11),(12,LV.int .i64 x12),(13,LV.int .i64 x13),(14,LV.bool x14)] [Ob.cells [LV.int .i64 o0_0,LV.int .i64 o0_1,LV.str o0_2,LV.int .i64 o0_3,LV.int .i64 o0_4]]) μ
def FX (pv:CV)(μ:Mu):St:= .panic pv (mS [] []) μ
def j6 (x0:List UInt8)(x1 x5 x6:Int)(x10:Bool)(x11 x12 x13:Int)(x14:Bool)(o0_0 o0_1:Int)(o0_2:List UInt8)(o0_3 o0_4:Int)(μ:Mu):St:= .norm (mS [(0,LV.str x0),(1,LV.int .i64 x1),(4,LV.loc 0 0),(5,LV.int .i64 x5),(6,LV.int .i64 x6),(10,LV.bool x10),(11,LV.int .i64 x11),(12,LV.int .i64 x12),(13,LV.int .i64 x13),(14,LV.bool x14)] [Ob.cells [LV.int .i64 o0_0,LV.int .i64 o0_1,LV.str o0_2,LV.int .i64 o0_3,LV.int .i64 o0_4]]) μ
def FW (pv:CV)(μ:Mu):St:= .panic pv (mS [] []) μ
def fu (o0_0 o0_1:Int)(o0_2:List UInt8)(o0_3 o0_4:Int)(μ:Mu):St:= .ret (mS [(4,LV.loc 0 0)] [Ob.cells [LV.int .i64 o0_0,LV.int .i64 o0_1,LV.str o0_2,LV.int .i64 o0_3,LV.int .i64 o0_4]]) μ
def Cu (x0:List UInt8)(x1 x5 x6:Int)(x10:Bool)(x11 x12 x13:Int)(x14:Bool)(o0_0 o0_1:Int)(o0_2:List UInt8)(o0_3 o0_4:Int):SegD:=⟨H98,[(4,0)],cA 98 [1,1,1,1,1,1,1,1,1,1],mS [(0,LV.str x0),(1,LV.int .i64 x1),(4,LV.loc 0 0),(5,LV.int .i64 x5),(6,LV.int .i64 x6),(10,LV.bool x10),(11,LV.int .i64 x11),(12,LV.int .i64 x12),(13,LV.int .i64 x13),(14,LV.bool x14)] [Ob.cells [LV.int .i64 o0_0,LV.int .i64 o0_1,LV.str o0_2,LV.int .i64 o0_3,LV.int .i64 o0_4]]⟩
def mY (x0:List UInt8)(x1 x5 x6:Int)(x10:Bool)(x11 x12 x13:Int)(x14:Bool)(o0_0 o0_1:Int)(o0_2:List UInt8)(o0_3 o0_4:Int)(μ:Mu):=(Cu x0 x1 x5 x6 x10 x11 x12 x13 x14 o0_0 o0_1 o0_2 o0_3 o0_4).seg ρ μ
def iD (o0_0 o0_1:Int)(o0_2:List UInt8)(o0_3 o0_4:Int)(μ:Mu):St:= .ret (mS [(4,LV.loc 0 0)] [Ob.cells [LV.int .i64 o0_0,LV.int .i64 o0_1,LV.str o0_2,LV.int .i64 o0_3,LV.int .i64 o0_4]]) μ
def Cv (x0:List UInt8)(x1 x5 x6 o0_0 o0_1:Int)(o0_2:List UInt8)(o0_3 o0_4:Int):SegD:=⟨H98,[(0,0),(1,0),(4,0),(5,0),(6,0),(10,0),(11,0),(12,0),(13,0)],cA 98 [1,1,1,1,1,1,1,1,1,1,0,1,0,1],mS [(0,LV.str x0),(1,LV.int .i64 x1),(4,LV.loc 0 0),(5,LV.int .i64 x5),(6,LV.int .i64 x6)] [Ob.cells [LV.int .i64 o0_0,LV.int .i64 o0_1,LV.str o0_2,LV.int .i64 o0_3,LV.int .i64 o0_4]]⟩
def FH (x0:List UInt8)(x1 x5 x6 o0_0 o0_1:Int)(o0_2:List UInt8)(o0_3 o0_4:Int)(μ:Mu):=(Cv x0 x1 x5 x6 o0_0 o0_1 o0_2 o0_3 o0_4).seg ρ μ
def j8 (o0_0 o0_1:Int)(o0_2:List UInt8)(o0_3 o0_4:Int)(μ:Mu):St:= .ret (mS [(4,LV.loc 0 0)] [Ob.cells [LV.int .i64 o0_0,LV.int .i64 o0_1,LV.str o0_2,LV.int .i64 o0_3,LV.int .i64 o0_4]]) μ
def FY (pv:CV)(μ:Mu):St:= .panic pv (mS [] []) μ
def Cw (x0:List UInt8)(x1 x5 x6:Int)(x10:Bool)(x11 x12 x13 o0_0 o0_1:Int)(o0_2:List UInt8)(o0_3 o0_4:Int):SegD:=⟨H98,[(4,0)],cA 98 [1,1,1,1,1,1,1,1,1,1,1],mS [(0,LV.str x0),(1,LV.int .i64 x1),(4,LV.loc 0 0),(5,LV.int .i64 x5),(6,LV.int .i64 x6),(10,LV.bool x10),(11,LV.int .i64 x11),(12,LV.int .i64 x12),(13,LV.int .i64 x13)] [Ob.cells [LV.int .i64 o0_0,LV.int .i64 o0_1,LV.str o0_2,LV.int .i64 o0_3,LV.int .i64 o0_4]]⟩
def tv (x0:List UInt8)(x1 x5 x6:Int)(x10:Bool)(x11 x12 x13 o0_0 o0_1:Int)(o0_2:List UInt8)(o0_3 o0_4:Int)(μ:Mu):=(Cw x0 x1 x5 x6 x10 x11 x12 x13 o0_0 o0_1 o0_2 o0_3 o0_4).seg ρ μ
def Cx (x0:List UInt8)(x1 x5 x6 x12 x13:Int)(x18:List UInt8)(o0_0 o0_1:Int)(o0_2:List UInt8)(o0_3 o0_4:Int):SegD:=⟨H98,[(4,0)],cA 98 [1,1,1,1,1,1,1,1,1,1,1,1,1],mS [(0,LV.str x0),(1,LV.int .i64 x1),(4,LV.loc 0 0),(5,LV.int .i64 x5),(6,LV.int .i64 x6),(12,LV.int .i64 x12),(13,LV.int .i64 x13),(18,LV.str x18)] [Ob.cells [LV.int .i64 o0_0,LV.int .i64 o0_1,LV.str o0_2,LV.int .i64 o0_3,LV.int .i64 o0_4]]⟩
def xC (x0:List UInt8)(x1 x5 x6 x12 x13:Int)(x18:List UInt8)(o0_0 o0_1:Int)(o0_2:List UInt8)(o0_3 o0_4:Int)(μ:Mu):=(Cx x0 x1 x5 x6 x12 x13 x18 o0_0 o0_1 o0_2 o0_3 o0_4).seg ρ μ
def j9 (o0_0 o0_1:Int)(o0_2:List UInt8)(o0_3 o0_4:Int)(μ:Mu):St:= .ret (mS [(4,LV.loc 0 0)] [Ob.cells [LV.int .i64 o0_0,LV.int .i64 o0_1,LV.str o0_2,LV.int .i64 o0_3,LV.int .i64 o0_4]]) μ
def Cy (x6 x12 x13:Int)(x19 x20:List UInt8)(o0_0 o0_1:Int)(o0_2:List UInt8)(o0_3 o0_4:Int):SegD:=⟨H98,[(4,0)],cA 98 [1,1,1,1,1,1,1,1,1,1,1,1,1,1,1],mS [(4,LV.loc 0 0),(6,LV.int .i64 x6),(12,LV.int .i64 x12),(13,LV.int .i64 x13),(19,LV.str x19),(20,LV.str x20)] [Ob.cells [LV.int .i64 o0_0,LV.int .i64 o0_1,LV.str o0_2,LV.int .i64 o0_3,LV.int .i64 o0_4]]⟩
def FI (x6 x12 x13:Int)(x19 x20:List UInt8)(o0_0 o0_1:Int)(o0_2:List UInt8)(o0_3 o0_4:Int)(μ:Mu):=(Cy x6 x12 x13 x19 x20 o0_0 o0_1 o0_2 o0_3 o0_4).seg ρ μ
def ka (o0_0 o0_1:Int)(o0_2:List UInt8)(o0_3 o0_4:Int)(μ:Mu):St:= .ret (mS [(4,LV.loc 0 0)] [Ob.cells [LV.int .i64 o0_0,LV.int .i64 o0_1,LV.str o0_2,LV.int .i64 o0_3,LV.int .i64 o0_4]]) μ
def vT (pv:CV)(μ:Mu):St:= .panic pv (mS [] []) μ
def iE (pv:CV)(μ:Mu):St:= .panic pv (mS [] []) μ
def l9 (o0_0 o0_1:Int)(o0_2:List UInt8)(o0_3 o0_4:Int)(μ:Mu):St:= .ret (mS [(4,LV.loc 0 0)] [Ob.cells [LV.int .i64 o0_0,LV.int .i64 o0_1,LV.str o0_2,LV.int .i64 o0_3,LV.int .i64 o0_4]]) μ
theorem Dd (x0 x1 x5 x6 x7 x30 x31 x32 o0_0 o0_1 o0_2 o0_3 o0_4 μ):(GN x0 x1 x5 x6 x7 x30 x31 x32 o0_0 o0_1 o0_2 o0_3 o0_4).rK ρ μ=
 cond (decide (x32 < x31)) (
 opt (cE x30 x32) fun c11=>
 opt (aL (LV.cv c11)) fun s12=>
 cond (x7) (
 tz ρ x0 x1 x5 x6 true x30 x31 (IntKind.wrap .i64 (x32+(1:Int))) o0_0 o0_1 o0_2 o0_3 o0_4 μ) (
 cond (decide ((0 : Int) < x5)) (
 callK (ρ.call 99 [LV.str x0, LV.int .i64 x6, LV.str s12] μ) (fun v13 μ14 =>
 opt (aP v13) fun b17=>
 tz ρ x0 x1 x5 x6 b17 x30 x31 (IntKind.wrap .i64 (x32+(1:Int))) o0_0 o0_1 o0_2 o0_3 o0_4 μ14) (pX Iu)) (
 tz ρ x0 x1 x5 x6 false x30 x31 (IntKind.wrap .i64 (x32+(1:Int))) o0_0 o0_1 o0_2 o0_3 o0_4 μ))) (
 some (sO x0 x1 x5 x6 x7 o0_0 o0_1 o0_2 o0_3 o0_4 μ)):=by kernel_rfl
theorem Ju (x0 x1 x5 x6 x10 x11 x12 x13 x14 x15 x16 o0_0 o0_1 o0_2 o0_3 o0_4 μ):(Ct x0 x1 x5 x6 x10 x11 x12 x13 x14 x15 x16 o0_0 o0_1 o0_2 o0_3 o0_4).sK ρ μ=
 opt (a7 x0 x6) fun y38=>
 cond (decide ((y38.toNat : Int) = (68 : Int))) (
 some (j7 x0 x1 x5 (IntKind.wrap .i64 (x15+x16)) x10 x11 (2:Int) x13 x14 o0_0 o0_1 o0_2 o0_3 o0_4 μ)) (
 opt (a7 x0 x6) fun y39=>
 cond (decide ((y39.toNat : Int) = (100 : Int))) (
 some (j7 x0 x1 x5 (IntKind.wrap .i64 (x15+x16)) x10 x11 (2:Int) x13 x14 o0_0 o0_1 o0_2 o0_3 o0_4 μ)) (
 some (j7 x0 x1 x5 (IntKind.wrap .i64 (x15+x16)) x10 x11 x12 x13 x14 o0_0 o0_1 o0_2 o0_3 o0_4 μ))):=by kernel_rfl
theorem rM (x0 x1 x5 x6 x10 x11 x12 x13 x14 o0_0 o0_1 o0_2 o0_3 o0_4 μ):kS ρ H98 [] [(0,0),(1,0),(4,0),(5,0),(6,0),(10,0),(11,0),(12,0),(13,0),(14,0)] (j7 x0 x1 x5 x6 x10 x11 x12 x13 x14 o0_0 o0_1 o0_2 o0_3 o0_4 μ)=
 some (pH x0 x1 x5 x6 x10 x11 x12 x13 x14 o0_0 o0_1 o0_2 o0_3 o0_4 μ):=by kernel_rfl
theorem Jt (x0 x1 x5 x6 x10 x11 x12 x15 x16 o0_0 o0_1 o0_2 o0_3 o0_4 μ):(Cs x0 x1 x5 x6 x10 x11 x12 x15 x16 o0_0 o0_1 o0_2 o0_3 o0_4).sK ρ μ=
 opt (bZ x0 x15 (IntKind.wrap .i64 (x15+x16))) fun s31=>
 callK (ρ.call 120 [LV.str s31] μ) (fun v32 μ33 =>
 opt (aH .i64 v32) fun n36=>
 opt (a7 x0 (IntKind.wrap .i64 (x15-(1:Int)))) fun y37=>
 cond (decide ((y37.toNat : Int) = (45 : Int))) (
 opt (xB ρ x0 x1 x5 x6 x10 x11 x12 (IntKind.wrap .i64 (0-n36)) true x15 x16 o0_0 o0_1 o0_2 o0_3 o0_4 μ33) (kS ρ H98 [] [(0,0),(1,0),(4,0),(5,0),(6,0),(10,0),(11,0),(12,0),(13,0),(14,0)])) (
 opt (xB ρ x0 x1 x5 x6 x10 x11 x12 n36 true x15 x16 o0_0 o0_1 o0_2 o0_3 o0_4 μ33) (kS ρ H98 [] [(0,0),(1,0),(4,0),(5,0),(6,0),(10,0),(11,0),(12,0),(13,0),(14,0)]))) (pX FX):=by kernel_rfl
theorem Bk (x0 x1 x5 x6 x10 x11 x12 x13 x14 o0_0 o0_1 o0_2 o0_3 o0_4 μ):kS ρ H98 [] [(0,0),(1,0),(4,0),(5,0),(6,0),(10,0),(11,0),(12,0),(13,0),(14,0)] (pH x0 x1 x5 x6 x10 x11 x12 x13 x14 o0_0 o0_1 o0_2 o0_3 o0_4 μ)=
 some (j6 x0 x1 x5 x6 x10 x11 x12 x13 x14 o0_0 o0_1 o0_2 o0_3 o0_4 μ):=by kernel_rfl
theorem Js (x0 x1 x5 x6 x10 x11 x12 x13 x14 x15 o0_0 o0_1 o0_2 o0_3 o0_4 μ):(Cr x0 x1 x5 x6 x10 x11 x12 x13 x14 x15 o0_0 o0_1 o0_2 o0_3 o0_4).sK ρ μ=
 callK (ρ.call 47 [LV.str x0, LV.int .i64 x15] μ) (fun v26 μ27 =>
 opt (aH .i64 v26) fun n30=>
 cond (decide ((0 : Int) < n30)) (
 cond (decide ((3 : Int) < n30)) (
 some (pG (0:Int) (0:Int) ([]:List UInt8) (0:Int) (7:Int) μ27)) (
 opt (FG ρ x0 x1 x5 x6 x10 x11 x12 x15 n30 o0_0 o0_1 o0_2 o0_3 o0_4 μ27) (kS ρ H98 [] [(0,0),(1,0),(4,0),(5,0),(6,0),(10,0),(11,0),(12,0),(13,0),(14,0)]))) (
 some (j6 x0 x1 x5 x6 x10 x11 x12 x13 x14 o0_0 o0_1 o0_2 o0_3 o0_4 μ27))) (pX FW):=by kernel_rfl
theorem Bj (o0_0 o0_1 o0_2 o0_3 o0_4 μ):kS ρ H98 [.seq (cA 98 [1,1,1,1,1,1,1,1,1,1])] [(4,0)] (pG o0_0 o0_1 o0_2 o0_3 o0_4 μ)=
 some (fu o0_0 o0_1 o0_2 o0_3 o0_4 μ):=by kernel_rfl
theorem Jw (x0 x1 x5 x6 o0_0 o0_1 o0_2 o0_3 o0_4 μ):(Cv x0 x1 x5 x6 o0_0 o0_1 o0_2 o0_3 o0_4).sK ρ μ=
 opt (bZ x0 x1 (IntKind.wrap .i64 (x1+x5))) fun s43=>
 callK (ρ.call 69 [LV.str s43] μ) (fun v44 μ45 =>
 opt (aL v44) fun s48=>
 cond (decide ((List.length s48 : Int) = (10 : Int))) (
 cond (!(Op.bytesLess s48 ([50, 49, 52, 55, 52, 56, 51, 54, 52, 55] : List UInt8) || decide (s48 = ([50, 49, 52, 55, 52, 56, 51, 54, 52, 55] : List UInt8)))) (
 some (j8 (0:Int) (0:Int) ([]:List UInt8) (0:Int) (28:Int) μ45)) (
 some (j8 (1:Int) (0:Int) s48 x6 (0:Int) μ45))) (
 some (j8 (1:Int) (0:Int) s48 x6 (0:Int) μ45))) (pX FY):=by kernel_rfl
theorem rO (o0_0 o0_1 o0_2 o0_3 o0_4 μ):kS ρ H98 [.seq (cA 98 [1,1,1,1,1,1,1,1,1,1,1])] [(4,0)] (j8 o0_0 o0_1 o0_2 o0_3 o0_4 μ)=
 some (iD o0_0 o0_1 o0_2 o0_3 o0_4 μ):=by kernel_rfl
theorem Jy (x6 x12 x13 x19 x20 o0_0 o0_1 o0_2 o0_3 o0_4 μ):(Cy x6 x12 x13 x19 x20 o0_0 o0_1 o0_2 o0_3 o0_4).sK ρ μ=
 ay (bf (List.length x19 + List.length ([46] : List UInt8))) (
 ay (bf (List.length (x19 ++ ([46] : List UInt8)) + List.length x20)) (
 cond (decide (x12 = (2 : Int))) (
 ay (bf (List.length ((x19 ++ ([46] : List UInt8)) ++ x20) + List.length ([68] : List UInt8))) (
 callK (ρ.call 71 [LV.int .i64 x13] μ) (fun v82 μ83 =>
 opt (aL v82) fun s86=>
 ay (bf (List.length (((x19 ++ ([46] : List UInt8)) ++ x20) ++ ([68] : List UInt8)) + List.length s86)) (
 some (ka (1:Int) x12 ((((x19++([46]:List UInt8))++x20)++([68]:List UInt8))++s86) x6 (0:Int) μ83))) (pX vT))) (
 cond (!decide (x13 = (0 : Int))) (
 ay (bf (List.length ((x19 ++ ([46] : List UInt8)) ++ x20) + List.length ([69] : List UInt8))) (
 callK (ρ.call 71 [LV.int .i64 x13] μ) (fun v87 μ88 =>
 opt (aL v87) fun s91=>
 ay (bf (List.length (((x19 ++ ([46] : List UInt8)) ++ x20) ++ ([69] : List UInt8)) + List.length s91)) (
 some (ka (1:Int) x12 ((((x19++([46]:List UInt8))++x20)++([69]:List UInt8))++s91) x6 (0:Int) μ88))) (pX vT))) (
 some (ka (1:Int) x12 ((x19++([46]:List UInt8))++x20) x6 (0:Int) μ))))):=by kernel_rfl
theorem Bl (o0_0 o0_1 o0_2 o0_3 o0_4 μ):kS ρ H98 [] [(4,0)] (ka o0_0 o0_1 o0_2 o0_3 o0_4 μ)=
 some (j9 o0_0 o0_1 o0_2 o0_3 o0_4 μ):=by kernel_rfl
theorem Jx (x0 x1 x5 x6 x12 x13 x18 o0_0 o0_1 o0_2 o0_3 o0_4 μ):(Cx x0 x1 x5 x6 x12 x13 x18 o0_0 o0_1 o0_2 o0_3 o0_4).sK ρ μ=
 opt (bZ x0 x1 (IntKind.wrap .i64 (x1+x5))) fun s51=>
 callK (ρ.call 70 [LV.str s51] μ) (fun v52 μ53 =>
 opt (aL v52) fun s56=>
 callK (ρ.call 69 [LV.str s56] μ53) (fun v57 μ58 =>
 opt (aL v57) fun s61=>
 callK (ρ.call 70 [LV.str x18] μ58) (fun v62 μ63 =>
 opt (aL v62) fun s66=>
 callK (ρ.call 134 [LV.str s66] μ63) (fun v67 μ68 =>
 opt (aL v67) fun s71=>
 callK (ρ.call 135 [LV.str s61] μ68) (fun v72 μ73 =>
 opt (aH .i64 v72) fun n76=>
 callK (ρ.call 135 [LV.str s71] μ73) (fun v77 μ78 =>
 opt (aH .i64 v77) fun n81=>
 cond (decide ((30 : Int) < IntKind.wrap .i64 (n76 + n81))) (
 some (j9 (0:Int) (0:Int) ([]:List UInt8) (0:Int) (7:Int) μ78)) (
 opt (FI ρ x6 x12 x13 s61 s71 o0_0 o0_1 o0_2 o0_3 o0_4 μ78) (kS ρ H98 [] [(4,0)]))) (pX iE)) (pX iE)) (pX iE)) (pX iE)) (pX iE)) (pX iE):=by kernel_rfl
theorem rQ (o0_0 o0_1 o0_2 o0_3 o0_4 μ):kS ρ H98 [] [(4,0)] (j9 o0_0 o0_1 o0_2 o0_3 o0_4 μ)=
 some (l9 o0_0 o0_1 o0_2 o0_3 o0_4 μ):=by kernel_rfl
theorem ze (x0 x1 x5 x6 x10 x11 x12 x13 o0_0 o0_1 o0_2 o0_3 o0_4 μ):(Cw x0 x1 x5 x6 x10 x11 x12 x13 o0_0 o0_1 o0_2 o0_3 o0_4).sK ρ μ=
 cond (x10) (
 opt (bZ x0 (IntKind.wrap .i64 (IntKind.wrap .i64 (x1+x5)+(1:Int))) (IntKind.wrap .i64 (IntKind.wrap .i64 (IntKind.wrap .i64 (x1+x5)+(1:Int))+x11))) fun s50=>
 opt (xC ρ x0 x1 x5 x6 x12 x13 s50 o0_0 o0_1 o0_2 o0_3 o0_4 μ) (kS ρ H98 [] [(4,0)])) (
 opt (xC ρ x0 x1 x5 x6 x12 x13 ([]:List UInt8) o0_0 o0_1 o0_2 o0_3 o0_4 μ) (kS ρ H98 [] [(4,0)])):=by kernel_rfl
theorem rP (o0_0 o0_1 o0_2 o0_3 o0_4 μ):kS ρ H98 [] [(4,0)] (l9 o0_0 o0_1 o0_2 o0_3 o0_4 μ)=
 some (iD o0_0 o0_1 o0_2 o0_3 o0_4 μ):=by kernel_rfl
theorem Jv (x0 x1 x5 x6 x10 x11 x12 x13 x14 o0_0 o0_1 o0_2 o0_3 o0_4 μ):(Cu x0 x1 x5 x6 x10 x11 x12 x13 x14 o0_0 o0_1 o0_2 o0_3 o0_4).sK ρ μ=
 cond (!x10) (
 cond (!x14) (
 cond (decide ((10 : Int) < x5)) (
 some (iD (0:Int) (0:Int) ([]:List UInt8) (0:Int) (28:Int) μ)) (
 opt (FH ρ x0 x1 x5 x6 o0_0 o0_1 o0_2 o0_3 o0_4 μ) (kS ρ H98 [.seq (cA 98 [1,1,1,1,1,1,1,1,1,1,1])] [(4,0)]))) (
 opt (tv ρ x0 x1 x5 x6 x10 x11 x12 x13 o0_0 o0_1 o0_2 o0_3 o0_4 μ) (kS ρ H98 [] [(4,0)]))) (
 opt (tv ρ x0 x1 x5 x6 x10 x11 x12 x13 o0_0 o0_1 o0_2 o0_3 o0_4 μ) (kS ρ H98 [] [(4,0)])):=by kernel_rfl
theorem rN (o0_0 o0_1 o0_2 o0_3 o0_4 μ):kS ρ H98 [] [(4,0)] (iD o0_0 o0_1 o0_2 o0_3 o0_4 μ)=
 some (fu o0_0 o0_1 o0_2 o0_3 o0_4 μ):=by kernel_rfl
theorem rL (x0 x1 x5 x6 x10 x11 x12 x13 x14 o0_0 o0_1 o0_2 o0_3 o0_4 μ):kS ρ H98 [.seq (cA 98 [1,1,1,1,1,1,1,1,1,1])] [(4,0)] (j6 x0 x1 x5 x6 x10 x11 x12 x13 x14 o0_0 o0_1 o0_2 o0_3 o0_4 μ)=
 opt (mY ρ x0 x1 x5 x6 x10 x11 x12 x13 x14 o0_0 o0_1 o0_2 o0_3 o0_4 μ) (kS ρ H98 [] [(4,0)]):=by kernel_rfl
theorem Jr (x0 x1 x5 x6 x7 x10 x11 o0_0 o0_1 o0_2 o0_3 o0_4 μ):(Cq x0 x1 x5 x6 x7 x10 x11 o0_0 o0_1 o0_2 o0_3 o0_4).sK ρ μ=
 cond (!x7) (
 cond (decide (x6 < (List.length x0 : Int))) (
 opt (a7 x0 x6) fun y24=>
 cond (decide ((y24.toNat : Int) = (69 : Int))) (
 cond (decide (IntKind.wrap .i64 (x6 + (1 : Int)) < (List.length x0 : Int))) (
 opt (a7 x0 (IntKind.wrap .i64 (x6+(1:Int)))) fun y25=>
 cond (decide ((y25.toNat : Int) = (43 : Int))) (
 opt (cO ρ x0 x1 x5 x6 x10 x11 (1:Int) (0:Int) false (IntKind.wrap .i64 (IntKind.wrap .i64 (x6+(1:Int))+(1:Int))) o0_0 o0_1 o0_2 o0_3 o0_4 μ) (kS ρ H98 [.seq (cA 98 [1,1,1,1,1,1,1,1,1,1])] [(4,0)])) (
 opt (a7 x0 (IntKind.wrap .i64 (x6+(1:Int)))) fun y99=>
 cond (decide ((y99.toNat : Int) = (45 : Int))) (
 opt (cO ρ x0 x1 x5 x6 x10 x11 (1:Int) (0:Int) false (IntKind.wrap .i64 (IntKind.wrap .i64 (x6+(1:Int))+(1:Int))) o0_0 o0_1 o0_2 o0_3 o0_4 μ) (kS ρ H98 [.seq (cA 98 [1,1,1,1,1,1,1,1,1,1])] [(4,0)])) (
 opt (cO ρ x0 x1 x5 x6 x10 x11 (1:Int) (0:Int) false (IntKind.wrap .i64 (x6+(1:Int))) o0_0 o0_1 o0_2 o0_3 o0_4 μ) (kS ρ H98 [.seq (cA 98 [1,1,1,1,1,1,1,1,1,1])] [(4,0)])))) (
 opt (cO ρ x0 x1 x5 x6 x10 x11 (1:Int) (0:Int) false (IntKind.wrap .i64 (x6+(1:Int))) o0_0 o0_1 o0_2 o0_3 o0_4 μ) (kS ρ H98 [.seq (cA 98 [1,1,1,1,1,1,1,1,1,1])] [(4,0)]))) (
 opt (a7 x0 x6) fun y103=>
 cond (decide ((y103.toNat : Int) = (101 : Int))) (
 cond (decide (IntKind.wrap .i64 (x6 + (1 : Int)) < (List.length x0 : Int))) (
 opt (a7 x0 (IntKind.wrap .i64 (x6+(1:Int)))) fun y104=>
 cond (decide ((y104.toNat : Int) = (43 : Int))) (
 opt (cO ρ x0 x1 x5 x6 x10 x11 (1:Int) (0:Int) false (IntKind.wrap .i64 (IntKind.wrap .i64 (x6+(1:Int))+(1:Int))) o0_0 o0_1 o0_2 o0_3 o0_4 μ) (kS ρ H98 [.seq (cA 98 [1,1,1,1,1,1,1,1,1,1])] [(4,0)])) (
 opt (a7 x0 (IntKind.wrap .i64 (x6+(1:Int)))) fun y106=>
 cond (decide ((y106.toNat : Int) = (45 : Int))) (
 opt (cO ρ x0 x1 x5 x6 x10 x11 (1:Int) (0:Int) false (IntKind.wrap .i64 (IntKind.wrap .i64 (x6+(1:Int))+(1:Int))) o0_0 o0_1 o0_2 o0_3 o0_4 μ) (kS ρ H98 [.seq (cA 98 [1,1,1,1,1,1,1,1,1,1])] [(4,0)])) (
 opt (cO ρ x0 x1 x5 x6 x10 x11 (1:Int) (0:Int) false (IntKind.wrap .i64 (x6+(1:Int))) o0_0 o0_1 o0_2 o0_3 o0_4 μ) (kS ρ H98 [.seq (cA 98 [1,1,1,1,1,1,1,1,1,1])] [(4,0)])))) (
 opt (cO ρ x0 x1 x5 x6 x10 x11 (1:Int) (0:Int) false (IntKind.wrap .i64 (x6+(1:Int))) o0_0 o0_1 o0_2 o0_3 o0_4 μ) (kS ρ H98 [.seq (cA 98 [1,1,1,1,1,1,1,1,1,1])] [(4,0)]))) (
 opt (a7 x0 x6) fun y110=>
 cond (decide ((y110.toNat : Int) = (68 : Int))) (
 cond (decide (IntKind.wrap .i64 (x6 + (1 : Int)) < (List.length x0 : Int))) (
 opt (a7 x0 (IntKind.wrap .i64 (x6+(1:Int)))) fun y111=>
 cond (decide ((y111.toNat : Int) = (43 : Int))) (
 opt (cO ρ x0 x1 x5 x6 x10 x11 (1:Int) (0:Int) false (IntKind.wrap .i64 (IntKind.wrap .i64 (x6+(1:Int))+(1:Int))) o0_0 o0_1 o0_2 o0_3 o0_4 μ) (kS ρ H98 [.seq (cA 98 [1,1,1,1,1,1,1,1,1,1])] [(4,0)])) (
 opt (a7 x0 (IntKind.wrap .i64 (x6+(1:Int)))) fun y113=>
 cond (decide ((y113.toNat : Int) = (45 : Int))) (
 opt (cO ρ x0 x1 x5 x6 x10 x11 (1:Int) (0:Int) false (IntKind.wrap .i64 (IntKind.wrap .i64 (x6+(1:Int))+(1:Int))) o0_0 o0_1 o0_2 o0_3 o0_4 μ) (kS ρ H98 [.seq (cA 98 [1,1,1,1,1,1,1,1,1,1])] [(4,0)])) (
 opt (cO ρ x0 x1 x5 x6 x10 x11 (1:Int) (0:Int) false (IntKind.wrap .i64 (x6+(1:Int))) o0_0 o0_1 o0_2 o0_3 o0_4 μ) (kS ρ H98 [.seq (cA 98 [1,1,1,1,1,1,1,1,1,1])] [(4,0)])))) (
 opt (cO ρ x0 x1 x5 x6 x10 x11 (1:Int) (0:Int) false (IntKind.wrap .i64 (x6+(1:Int))) o0_0 o0_1 o0_2 o0_3 o0_4 μ) (kS ρ H98 [.seq (cA 98 [1,1,1,1,1,1,1,1,1,1])] [(4,0)]))) (
 opt (a7 x0 x6) fun y117=>
 cond (decide ((y117.toNat : Int) = (100 : Int))) (
 cond (decide (IntKind.wrap .i64 (x6 + (1 : Int)) < (List.length x0 : Int))) (
 opt (a7 x0 (IntKind.wrap .i64 (x6+(1:Int)))) fun y118=>
 cond (decide ((y118.toNat : Int) = (43 : Int))) (
 opt (cO ρ x0 x1 x5 x6 x10 x11 (1:Int) (0:Int) false (IntKind.wrap .i64 (IntKind.wrap .i64 (x6+(1:Int))+(1:Int))) o0_0 o0_1 o0_2 o0_3 o0_4 μ) (kS ρ H98 [.seq (cA 98 [1,1,1,1,1,1,1,1,1,1])] [(4,0)])) (
 opt (a7 x0 (IntKind.wrap .i64 (x6+(1:Int)))) fun y120=>
 cond (decide ((y120.toNat : Int) = (45 : Int))) (
 opt (cO ρ x0 x1 x5 x6 x10 x11 (1:Int) (0:Int) false (IntKind.wrap .i64 (IntKind.wrap .i64 (x6+(1:Int))+(1:Int))) o0_0 o0_1 o0_2 o0_3 o0_4 μ) (kS ρ H98 [.seq (cA 98 [1,1,1,1,1,1,1,1,1,1])] [(4,0)])) (
 opt (cO ρ x0 x1 x5 x6 x10 x11 (1:Int) (0:Int) false (IntKind.wrap .i64 (x6+(1:Int))) o0_0 o0_1 o0_2 o0_3 o0_4 μ) (kS ρ H98 [.seq (cA 98 [1,1,1,1,1,1,1,1,1,1])] [(4,0)])))) (
 opt (cO ρ x0 x1 x5 x6 x10 x11 (1:Int) (0:Int) false (IntKind.wrap .i64 (x6+(1:Int))) o0_0 o0_1 o0_2 o0_3 o0_4 μ) (kS ρ H98 [.seq (cA 98 [1,1,1,1,1,1,1,1,1,1])] [(4,0)]))) (
 opt (mY ρ x0 x1 x5 x6 x10 x11 (1:Int) (0:Int) false o0_0 o0_1 o0_2 o0_3 o0_4 μ) (kS ρ H98 [] [(4,0)])))))) (
 opt (mY ρ x0 x1 x5 x6 x10 x11 (1:Int) (0:Int) false o0_0 o0_1 o0_2 o0_3 o0_4 μ) (kS ρ H98 [] [(4,0)]))) (
 opt (mY ρ x0 x1 x5 x6 x10 x11 (1:Int) (0:Int) false o0_0 o0_1 o0_2 o0_3 o0_4 μ) (kS ρ H98 [] [(4,0)])):=by kernel_rfl
theorem rJ (o0_0 o0_1 o0_2 o0_3 o0_4 μ):kB ρ 98 H98 [] (fu o0_0 o0_1 o0_2 o0_3 o0_4 μ)=
 some (.ret (LV.cv (CV.agg [CV.int .i64 o0_0,CV.int .i64 o0_1,CV.str o0_2,CV.int .i64 o0_3,CV.int .i64 o0_4])) μ):=by kernel_rfl
theorem EV (x0 x1 x5 x6 x7 o0_0 o0_1 o0_2 o0_3 o0_4 μ):kB ρ 98 H98 [.block 0,.seq (cA 98 [1,1,1,1,1])] (sO x0 x1 x5 x6 x7 o0_0 o0_1 o0_2 o0_3 o0_4 μ)=
 cond (!x7) (
 cond (decide (x6 < (List.length x0 : Int))) (
 opt (a7 x0 x6) fun y18=>
 cond (decide ((y18.toNat : Int) = (46 : Int))) (
 callK (ρ.call 47 [LV.str x0, LV.int .i64 (IntKind.wrap .i64 (x6 + (1 : Int)))] μ) (fun v19 μ20 =>
 opt (aH .i64 v19) fun n23=>
 opt (mX ρ x0 x1 x5 (IntKind.wrap .i64 (IntKind.wrap .i64 (x6+(1:Int))+n23)) x7 true n23 o0_0 o0_1 o0_2 o0_3 o0_4 μ20) (kB ρ 98 H98 [])) pP) (
 opt (mX ρ x0 x1 x5 x6 x7 false (0:Int) o0_0 o0_1 o0_2 o0_3 o0_4 μ) (kB ρ 98 H98 []))) (
 opt (mX ρ x0 x1 x5 x6 x7 false (0:Int) o0_0 o0_1 o0_2 o0_3 o0_4 μ) (kB ρ 98 H98 []))) (
 opt (mX ρ x0 x1 x5 x6 x7 false (0:Int) o0_0 o0_1 o0_2 o0_3 o0_4 μ) (kB ρ 98 H98 [])):=by kernel_rfl
theorem Pn (a b μ):aG E ρ 98 [LV.str a,LV.int .i64 b] μ=
 callK (ρ.call 47 [LV.str a, LV.int .i64 b] μ) (fun v1 μ2 =>
 opt (aH .i64 v1) fun n5=>
 callK (ρ.call 55 [] μ2) (fun v6 μ7 =>
 opt (fg v6) fun l10=>
 ay (dQ 1 l10 [CV.str ([46, 84, 82, 85, 69, 46] : List UInt8), CV.str ([46, 70, 65, 76, 83, 69, 46] : List UInt8)]) (
 opt (tz ρ a b n5 (IntKind.wrap .i64 (b+n5)) false (l10++[CV.str ([46,84,82,85,69,46]:List UInt8),CV.str ([46,70,65,76,83,69,46]:List UInt8)]) (List.length (l10++[CV.str ([46,84,82,85,69,46]:List UInt8),CV.str ([46,70,65,76,83,69,46]:List UInt8)]):Int) (0:Int) (0:Int) (0:Int) ([]:List UInt8) (0:Int) (0:Int) μ7) (kB ρ 98 H98 [.block 0,.seq (cA 98 [1,1,1,1,1])]))) pP) pP:=by kernel_rfl
theorem Po (a b c μ):aG E ρ 99 [LV.str a,LV.int .i64 b,LV.str c] μ=
 cond (decide (IntKind.wrap .i64 (b + (List.length c : Int)) ≤ (List.length a : Int))) (
 opt (bZ a b (IntKind.wrap .i64 (b+(List.length c:Int)))) fun s1=>
 callK (ρ.call 97 [LV.str s1] μ) (fun v2 μ3 =>
 opt (aL v2) fun s6=>
 some (.ret (LV.bool (decide (s6=c))) μ3)) pP) (
 some (.ret (LV.bool false) μ)):=by kernel_rfl
theorem NV (μ):aG E ρ 100 [] μ=
 some (.ret (LV.osl [CV.agg [CV.str ([60,61]:List UInt8),CV.str ([46,76,69,46]:List UInt8)],CV.agg [CV.str ([62,61]:List UInt8),CV.str ([46,71,69,46]:List UInt8)],CV.agg [CV.str ([61,61]:List UInt8),CV.str ([46,69,81,46]:List UInt8)],CV.agg [CV.str ([47,61]:List UInt8),CV.str ([46,78,69,46]:List UInt8)],CV.agg [CV.str ([60]:List UInt8),CV.str ([46,76,84,46]:List UInt8)],CV.agg [CV.str ([62]:List UInt8),CV.str ([46,71,84,46]:List UInt8)]]) μ):=by kernel_rfl
theorem NW (a μ):aG E ρ 117 [LV.str a] μ=
 cond (decide ((1320 : Int) < (List.length a : Int))) (
 some (.ret (LV.int .i64 (8:Int)) μ)) (
 callK (ρ.call 85 [LV.str a] μ) (fun v1 μ2 =>
 opt (aP v1) fun b5=>
 cond (!b5) (
 some (.ret (LV.int .i64 (3:Int)) μ2)) (
 some (.ret (LV.int .i64 (0:Int)) μ2))) pP):=by kernel_rfl
def Cz (x0l x0i:Nat)(x2 o0_0:Int):SegD:=⟨kE,[(0,0),(2,0),(3,0),(6,0)],cA 118 [1,1,0,0],mS [(0,LV.cv (CV.ref x0l x0i 0)),(2,LV.int .i64 x2),(3,LV.loc 0 0),(6,LV.lclo 147 [LV.loc 0 0])] [Ob.cells [LV.int .i64 o0_0]]⟩
def xF (x0l x0i:Nat)(x2 o0_0:Int)(μ:Mu):=(Cz x0l x0i x2 o0_0).loop ρ μ
def yv (x0l x0i:Nat)(x2 o0_0:Int):SegD:=⟨kE,[(0,0),(2,0),(3,0),(6,0)],cA 118 [1,1,0,0,0,0,0,0],mS [(0,LV.cv (CV.ref x0l x0i 0)),(2,LV.int .i64 x2),(3,LV.loc 0 0),(6,LV.lclo 147 [LV.loc 0 0])] [Ob.cells [LV.int .i64 o0_0]]⟩
def u1 (x0l x0i:Nat)(x2 o0_0:Int)(μ:Mu):=(yv x0l x0i x2 o0_0).loop ρ μ
def kV (x0l x0i:Nat)(x2 o0_0:Int)(μ:Mu):St:= .exit 2 (mS [(0,LV.cv (CV.ref x0l x0i 0)),(2,LV.int .i64 x2),(3,LV.loc 0 0),(6,LV.lclo 147 [LV.loc 0 0])] [Ob.cells [LV.int .i64 o0_0]]) μ
def pI (x2 o0_0:Int)(μ:Mu):St:= .ret (mS [(2,LV.int .i64 x2),(3,LV.loc 0 0),(6,LV.lclo 147 [LV.loc 0 0])] [Ob.cells [LV.int .i64 o0_0]]) μ
def BZ (x0l x0i:Nat)(x2 o0_0:Int):SegD:=⟨kE,[(0,0),(2,0),(3,0),(6,0)],cA 118 [1,1,0,0,0,1,1],mS [(0,LV.cv (CV.ref x0l x0i 0)),(2,LV.int .i64 x2),(3,LV.loc 0 0),(6,LV.lclo 147 [LV.loc 0 0])] [Ob.cells [LV.int .i64 o0_0]]⟩
def xv (x0l x0i:Nat)(x2 o0_0:Int)(μ:Mu):=(BZ x0l x0i x2 o0_0).seg ρ μ
def pg (x0l x0i:Nat)(x2 o0_0:Int)(μ:Mu):St:= .norm (mS [(0,LV.cv (CV.ref x0l x0i 0)),(2,LV.int .i64 x2),(3,LV.loc 0 0),(6,LV.lclo 147 [LV.loc 0 0])] [Ob.cells [LV.int .i64 o0_0]]) μ
def ph (pv:CV)(x2 o0_0:Int)(μ:Mu):St:= .panic pv (mS [(2,LV.int .i64 x2),(3,LV.loc 0 0),(6,LV.lclo 147 [LV.loc 0 0])] [Ob.cells [LV.int .i64 o0_0]]) μ
def pJ (pv:CV)(x2 o0_0:Int)(μ:Mu):St:= .panic pv (mS [(2,LV.int .i64 x2),(3,LV.loc 0 0),(6,LV.lclo 147 [LV.loc 0 0])] [Ob.cells [LV.int .i64 o0_0]]) μ
theorem wx (x0l x0i x2 o0_0 μ):(yv x0l x0i x2 o0_0).rK ρ μ=
 opt (bv E.P 9 (aZ μ x0l x0i) 0) fun v1=>
 opt (aL v1) fun s2=>
 cond (decide (x2 < (List.length s2 : Int))) (
 opt (bv E.P 9 (aZ μ x0l x0i) 0) fun v3=>
 opt (aL v3) fun s4=>
 opt (a7 s4 x2) fun y5=>
 cond (decide ((y5.toNat : Int) = (32 : Int))) (
 u1 ρ x0l x0i (IntKind.wrap .i64 (x2+(1:Int))) o0_0 μ) (
 some (kV x0l x0i x2 o0_0 μ))) (
 some (kV x0l x0i x2 o0_0 μ)):=by kernel_rfl
theorem za (x0l x0i x2 o0_0 μ):(BZ x0l x0i x2 o0_0).sK ρ μ=
 callK (ρ.call 148 [LV.cv (CV.ref x0l x0i 0), LV.int .i64 x2] μ) (fun v8 μ9 =>
 opt (aS v8) fun xs12=>
 opt (az xs12) fun q13=>
 d8 q13.1 fun n14 n15 s16=>
 opt (az q13.2) fun q17=>
 opt (aH .i64 q17.1) fun n18=>
 opt (aO q17.2) fun u19=>
 opt (kq E.P 32 (aZ μ9 x0l x0i) 2) fun r20=>
 opt (fg r20.1) fun l21=>
 ay (dQ 3 l21 [CV.agg [CV.int .i64 n14, CV.int .i64 n15, CV.str s16]]) (
 ay (bO (x0l + 1) (l21 ++ [CV.agg [CV.int .i64 n14, CV.int .i64 n15, CV.str s16]])) (
 opt (bE E.P 32 (aZ (bN μ9 x0l x0i r20.2) x0l x0i) 2 (LV.osl (l21++[CV.agg [CV.int .i64 n14,CV.int .i64 n15,CV.str s16]]))) fun o22=>
 some (pg x0l x0i n18 o0_0 (bN (bN μ9 x0l x0i r20.2) x0l x0i o22))))) (fun v11 μ10=>
 some (ph v11 x2 o0_0 μ10)):=by kernel_rfl
theorem AJ (x0l x0i x2 o0_0 μ):kR ρ kE [.block 1] [(0,0),(2,0),(3,0),(6,0)] (cA 118 [1,1,0,0]) (pg x0l x0i x2 o0_0 μ)=
 xF ρ x0l x0i x2 o0_0 μ:=by kernel_rfl
theorem AK (pv x2 o0_0 μ):kR ρ kE [.block 1] [(0,0),(2,0),(3,0),(6,0)] (cA 118 [1,1,0,0]) (ph pv x2 o0_0 μ)=
 some (pJ pv x2 o0_0 μ):=by kernel_rfl
theorem zA (x0l x0i x2 o0_0 μ):kR ρ kE [.block 2,.seq (cA 118 [1,1,0,0,0,1]),.block 1] [(0,0),(2,0),(3,0),(6,0)] (cA 118 [1,1,0,0]) (kV x0l x0i x2 o0_0 μ)=
 opt (bv E.P 9 (aZ μ x0l x0i) 0) fun v6=>
 opt (aL v6) fun s7=>
 cond (decide ((List.length s7 : Int) ≤ x2)) (
 some (pI (0:Int) (0:Int) μ)) (
 opt (xv ρ x0l x0i x2 o0_0 μ) (kR ρ kE [.block 1] [(0,0),(2,0),(3,0),(6,0)] (cA 118 [1,1,0,0]))):=by kernel_rfl
theorem Jz (x0l x0i x2 o0_0 μ):(Cz x0l x0i x2 o0_0).rK ρ μ=
 opt (u1 ρ x0l x0i x2 o0_0 μ) (kR ρ kE [.block 2,.seq (cA 118 [1,1,0,0,0,1]),.block 1] [(0,0),(2,0),(3,0),(6,0)] (cA 118 [1,1,0,0])):=by kernel_rfl
theorem Bm (x2 o0_0 μ):g0 E.P ρ kE [.block 0] (pI x2 o0_0 μ) (vg E.P ρ 6 (xm E.P 118))=
 opt (ρ.dcall 147 none [LV.cv (CV.ref (List.length μ) 0 0)] (μ++[[Ob.cells [LV.int .i64 o0_0]]])) fun μ25=>
 opt (gR μ25) fun q26=>
 opt (opt (opt (bv E.P 25 (aF q26.2 0) 0) fun v27 =>
 some [v27]) fun l28=>some (LV.int .i64 x2::l28)) fun l29=>ay (m8 (dS l29)) (ay (eU (List.length q26.1) (dS l29)) (some (.ret (dS l29) q26.1))):=by kernel_rfl
theorem Bn (pv x2 o0_0 μ):g0 E.P ρ kE [.block 0] (pJ pv x2 o0_0 μ) (vg E.P ρ 6 (xm E.P 118))=
 opt (ρ.dcall 147 (some pv) [LV.cv (CV.ref (List.length μ) 0 0)] (μ++[[Ob.cells [LV.int .i64 o0_0]]])) fun μ30=>
 opt (gR μ30) fun q31=>
 opt (opt (opt (bv E.P 25 (aF q31.2 0) 0) fun v32 =>
 some [v32]) fun l33=>some (LV.int .i64 x2::l33)) fun l34=>ay (m8 (dS l34)) (ay (eU (List.length q31.1) (dS l34)) (some (.ret (dS l34) q31.1))):=by kernel_rfl
theorem NX (al ai μ):aG E ρ 118 [LV.cv (CV.ref al ai 0)] μ=
 opt (xF ρ al ai (0:Int) (0:Int) μ) fun st35=>g0 E.P ρ kE [.block 0] st35 (vg E.P ρ 6 (xm E.P 118)):=by kernel_rfl
def u7 (x0:List CV)(x1 x7 x8:Int):SegD:=⟨xD,[],cA 119 [1,0,1,0,0],mS [(0,LV.cv (CV.sl x0)),(1,LV.int .i64 x1),(7,LV.int .i64 x7),(8,LV.int .i64 x8)] []⟩
def o8 (x0:List CV)(x1 x7 x8:Int)(μ:Mu):=(u7 x0 x1 x7 x8).loop ρ μ
def ma (x4:Int)(μ:Mu):St:= .ret (mS [(4,LV.int .i64 x4)] []) μ
def pK (μ:Mu):St:= .exit 0 (mS [] []) μ
theorem zf (x0 x1 x7 x8 μ):(u7 x0 x1 x7 x8).rK ρ μ=
 cond (decide (x8 < x7)) (
 opt (cE x0 x8) fun c1=>
 opt (aH .i64 (LV.cv c1)) fun n2=>
 cond (decide (x1 = n2)) (
 some (ma x8 μ)) (
 o8 ρ x0 x1 x7 (IntKind.wrap .i64 (x8+(1:Int))) μ)) (
 some (pK μ)):=by kernel_rfl
theorem Bo (x4 μ):kB ρ 119 xD [.block 0,.seq (cA 119 [1,1])] (ma x4 μ)=
 some (.ret (LV.int .i64 x4) μ):=by kernel_rfl
theorem Bp (μ):kB ρ 119 xD [.block 0,.seq (cA 119 [1,1])] (pK μ)=
 some (.ret (LV.int .i64 (-1:Int)) μ):=by kernel_rfl
theorem KI (a b μ):aG E ρ 119 [LV.cv (CV.sl a),LV.int .i64 b] μ=
 opt (o8 ρ a b (List.length a:Int) (0:Int) μ) (kB ρ 119 xD [.block 0,.seq (cA 119 [1,1])]):=by kernel_rfl
def CA (x0:List UInt8)(x3 x4:Int):SegD:=⟨Dv,[(3,0)],cA 120 [1,1,0,1,0,0],mS [(0,LV.str x0),(3,LV.int .i64 x3),(4,LV.int .i64 x4)] []⟩
def xG (x0:List UInt8)(x3 x4:Int)(μ:Mu):=(CA x0 x3 x4).loop ρ μ
def pL (x3:Int)(μ:Mu):St:= .exit 0 (mS [(3,LV.int .i64 x3)] []) μ
theorem zg (x0 x3 x4 μ):(CA x0 x3 x4).rK ρ μ=
 cond (decide (x4 < (List.length x0 : Int))) (
 opt (a7 x0 x4) fun y1=>
 xG ρ x0 (IntKind.wrap .i64 (IntKind.wrap .i64 ((10:Int)*x3)+IntKind.wrap .i64 (IntKind.wrap .u8 ((y1.toNat:Int) -(48:Int))))) (IntKind.wrap .i64 (x4+(1:Int))) μ) (
 some (pL x3 μ)):=by kernel_rfl
theorem Bq (x3 μ):kB ρ 120 Dv [.block 0,.seq (cA 120 [1,1,1])] (pL x3 μ)=
 some (.ret (LV.int .i64 x3) μ):=by kernel_rfl
theorem NY (a μ):aG E ρ 120 [LV.str a] μ=
 opt (xG ρ a (0:Int) (0:Int) μ) (kB ρ 120 Dv [.block 0,.seq (cA 120 [1,1,1])]):=by kernel_rfl
theorem NZ (a μ):aG E ρ 132 [LV.int .u8 a] μ=
 cond (decide ((48 : Int) ≤ a)) (
 some (.ret (LV.bool (decide (a≤(57:Int)))) μ)) (
 some (.ret (LV.bool false) μ)):=by kernel_rfl
def CB (x0:List UInt8):SegD:=⟨Dw,[(0,0)],cA 134 [1,0,0,0],mS [(0,LV.str x0)] []⟩
def xH (x0:List UInt8)(μ:Mu):=(CB x0).loop ρ μ
def mb (x0:List UInt8)(μ:Mu):St:= .exit 0 (mS [(0,LV.str x0)] []) μ
theorem ta (x0 μ):(CB x0).rK ρ μ=
 cond (decide ((1 : Int) < (List.length x0 : Int))) (
 opt (a7 x0 (IntKind.wrap .i64 ((List.length x0:Int) -(1:Int)))) fun y1=>
 cond (decide ((y1.toNat : Int) = (48 : Int))) (
 opt (bZ x0 (0:Int) (IntKind.wrap .i64 ((List.length x0:Int) -(1:Int)))) fun s2=>
 xH ρ s2 μ) (
 some (mb x0 μ))) (
 some (mb x0 μ)):=by kernel_rfl
theorem Br (x0 μ):kB ρ 134 Dw [.block 0,.seq (cA 134 [1,1])] (mb x0 μ)=
 some (.ret (LV.str x0) μ):=by kernel_rfl
theorem N1 (a μ):aG E ρ 134 [LV.str a] μ=
 opt (xH ρ a μ) (kB ρ 134 Dw [.block 0,.seq (cA 134 [1,1])]):=by kernel_rfl
theorem N2 (a μ):aG E ρ 135 [LV.str a] μ=
 cond (decide (a = ([48] : List UInt8))) (
 some (.ret (LV.int .i64 (0:Int)) μ)) (
 some (.ret (LV.int .i64 (List.length a:Int)) μ)):=by kernel_rfl
theorem Lz (al ai μ):fv E ρ 147 none [LV.cv (CV.ref al ai 0)] μ=
 some μ:=by kernel_rfl
theorem LA (e al ai μ):fv E ρ 147 (some (CV.iface 162 (CV.agg [CV.int .i64 e]))) [LV.cv (CV.ref al ai 0)] μ=
 opt (bE E.P 25 (aZ μ al ai) 0 (LV.int .i64 e)) fun o1=>
 some (bN μ al ai o1):=by kernel_rfl
def B0 (x0l x0i:Nat)(x1 x6 o0_0 o0_1:Int)(o0_2:List UInt8):SegD:=⟨dW,[(4,0),(5,0)],cA 148 [1,1,1],mS [(0,LV.cv (CV.ref x0l x0i 0)),(1,LV.int .i64 x1),(4,LV.loc 0 0),(6,LV.int .u8 x6)] [Ob.cells [LV.int .i64 o0_0,LV.int .i64 o0_1,LV.str o0_2]]⟩
def o6 (x0l x0i:Nat)(x1 x6 o0_0 o0_1:Int)(o0_2:List UInt8)(μ:Mu):=(B0 x0l x0i x1 x6 o0_0 o0_1 o0_2).seg ρ μ
def ct (x5 o0_0 o0_1:Int)(o0_2:List UInt8)(μ:Mu):St:= .ret (mS [(4,LV.loc 0 0),(5,LV.int .i64 x5)] [Ob.cells [LV.int .i64 o0_0,LV.int .i64 o0_1,LV.str o0_2]]) μ
def bq (pv:CV)(μ:Mu):St:= .panic pv (mS [] []) μ
def yk (x14:List UInt8)(x15 o0_0 o0_1:Int)(o0_2:List UInt8):SegD:=⟨dW,[(0,0),(1,0),(4,0)],cA 148 [1,1,1,1,0,0,1,1,1,1,1,0,1,1],mS [(4,LV.loc 0 0),(14,LV.str x14),(15,LV.int .i64 x15)] [Ob.cells [LV.int .i64 o0_0,LV.int .i64 o0_1,LV.str o0_2]]⟩
def iy (x14:List UInt8)(x15 o0_0 o0_1:Int)(o0_2:List UInt8)(μ:Mu):=(yk x14 x15 o0_0 o0_1 o0_2).seg ρ μ
def iQ (x5 o0_0 o0_1:Int)(o0_2:List UInt8)(μ:Mu):St:= .ret (mS [(4,LV.loc 0 0),(5,LV.int .i64 x5)] [Ob.cells [LV.int .i64 o0_0,LV.int .i64 o0_1,LV.str o0_2]]) μ
def yl (x0l x0i:Nat)(x1 o0_0 o0_1:Int)(o0_2:List UInt8):SegD:=⟨dW,[(4,0),(5,0)],cA 148 [1,1,1,1,1],mS [(0,LV.cv (CV.ref x0l x0i 0)),(1,LV.int .i64 x1),(4,LV.loc 0 0)] [Ob.cells [LV.int .i64 o0_0,LV.int .i64 o0_1,LV.str o0_2]]⟩
def mR (x0l x0i:Nat)(x1 o0_0 o0_1:Int)(o0_2:List UInt8)(μ:Mu):=(yl x0l x0i x1 o0_0 o0_1 o0_2).seg ρ μ
def nE (x5 o0_0 o0_1:Int)(o0_2:List UInt8)(μ:Mu):St:= .ret (mS [(4,LV.loc 0 0),(5,LV.int .i64 x5)] [Ob.cells [LV.int .i64 o0_0,LV.int .i64 o0_1,LV.str o0_2]]) μ
def nF (pv:CV)(μ:Mu):St:= .panic pv (mS [] []) μ
theorem Hs (x14 x15 o0_0 o0_1 o0_2 μ):(yk x14 x15 o0_0 o0_1 o0_2).sK ρ μ=
 cond (decide (x14 = ([46, 84, 82, 85, 69, 46] : List UInt8))) (
 some (iQ x15 (1:Int) (5:Int) x14 μ)) (
 cond (decide (x14 = ([46, 70, 65, 76, 83, 69, 46] : List UInt8))) (
 some (iQ x15 (1:Int) (5:Int) x14 μ)) (
 some (iQ x15 (2:Int) (0:Int) x14 μ))):=by kernel_rfl
theorem zo (x5 o0_0 o0_1 o0_2 μ):kS ρ dW [.block 0,.seq (cA 148 [1,1,1,1,1])] [(4,0),(5,0)] (iQ x5 o0_0 o0_1 o0_2 μ)=
 some (ct x5 o0_0 o0_1 o0_2 μ):=by kernel_rfl
theorem Ht (x0l x0i x1 o0_0 o0_1 o0_2 μ):(yl x0l x0i x1 o0_0 o0_1 o0_2).sK ρ μ=
 callK (ρ.call 174 [LV.cv (CV.ref x0l x0i 0), LV.int .i64 x1] μ) (fun v147 μ148 =>
 opt (aS v147) fun xs151=>
 opt (az xs151) fun q152=>
 d8 q152.1 fun n153 n154 s155=>
 opt (az q152.2) fun q156=>
 opt (aH .i64 q156.1) fun n157=>
 opt (aO q156.2) fun u158=>
 some (nE n157 n153 n154 s155 μ148)) (pX nF):=by kernel_rfl
theorem zp (x5 o0_0 o0_1 o0_2 μ):kS ρ dW [] [(4,0),(5,0)] (nE x5 o0_0 o0_1 o0_2 μ)=
 some (ct x5 o0_0 o0_1 o0_2 μ):=by kernel_rfl
theorem zq (pv μ):kS ρ dW [] [(4,0),(5,0)] (nF pv μ)=
 some (bq pv μ):=by kernel_rfl
theorem I3 (x0l x0i x1 x6 o0_0 o0_1 o0_2 μ):(B0 x0l x0i x1 x6 o0_0 o0_1 o0_2).sK ρ μ=
 callK (ρ.call 168 [LV.cv (CV.ref x0l x0i 0), LV.int .i64 (IntKind.wrap .i64 (x1 + (1 : Int)))] μ) (fun v28 μ29 =>
 opt (aS v28) fun xs32=>
 opt (az xs32) fun q33=>
 opt (aH .u8 q33.1) fun n34=>
 opt (az q33.2) fun q35=>
 opt (aH .i64 q35.1) fun n36=>
 opt (aO q35.2) fun u37=>
 callK (ρ.call 90 [LV.int .u8 x6] μ29) (fun v38 μ39 =>
 opt (aP v38) fun b42=>
 cond (b42) (
 callK (ρ.call 169 [LV.cv (CV.ref x0l x0i 0), LV.int .i64 x1, LV.cv (CV.clo 93 [])] μ39) (fun v43 μ44 =>
 opt (aS v43) fun xs47=>
 opt (az xs47) fun q48=>
 opt (aL q48.1) fun s49=>
 opt (az q48.2) fun q50=>
 opt (aH .i64 q50.1) fun n51=>
 opt (aO q50.2) fun u52=>
 cond (decide ((31 : Int) < (List.length s49 : Int))) (
 callK (ρ.call 170 [LV.int .i64 (4 : Int)] μ44) (fun v53 μ54 =>
 opt (aS v53) fun xs57=>
 opt (aO xs57) fun u58=>
 callK (ρ.call 91 [LV.str s49] μ54) (fun v59 μ60 =>
 opt (aL v59) fun s63=>
 some (ct n51 (0:Int) (0:Int) s63 μ60)) (pX bq)) (pX bq)) (
 callK (ρ.call 91 [LV.str s49] μ44) (fun v64 μ65 =>
 opt (aL v64) fun s68=>
 some (ct n51 (0:Int) (0:Int) s68 μ65)) (pX bq))) (pX bq)) (
 callK (ρ.call 132 [LV.int .u8 x6] μ39) (fun v69 μ70 =>
 opt (aP v69) fun b73=>
 cond (b73) (
 callK (ρ.call 171 [LV.cv (CV.ref x0l x0i 0), LV.int .i64 x1] μ70) (fun v74 μ75 =>
 opt (aS v74) fun xs78=>
 opt (az xs78) fun q79=>
 d8 q79.1 fun n80 n81 s82=>
 opt (az q79.2) fun q83=>
 opt (aH .i64 q83.1) fun n84=>
 opt (aO q83.2) fun u85=>
 some (ct n84 n80 n81 s82 μ75)) (pX bq)) (
 cond (decide (x6 = (46 : Int))) (
 callK (ρ.call 132 [LV.int .u8 n34] μ70) (fun v86 μ87 =>
 opt (aP v86) fun b90=>
 cond (b90) (
 callK (ρ.call 171 [LV.cv (CV.ref x0l x0i 0), LV.int .i64 x1] μ87) (fun v91 μ92 =>
 opt (aS v91) fun xs95=>
 opt (az xs95) fun q96=>
 d8 q96.1 fun n97 n98 s99=>
 opt (az q96.2) fun q100=>
 opt (aH .i64 q100.1) fun n101=>
 opt (aO q100.2) fun u102=>
 some (ct n101 n97 n98 s99 μ92)) (pX bq)) (
 cond (decide (x6 = (46 : Int))) (
 callK (ρ.call 172 [LV.cv (CV.ref x0l x0i 0), LV.int .i64 x1] μ87) (fun v103 μ104 =>
 opt (aS v103) fun xs107=>
 opt (az xs107) fun q108=>
 opt (aL q108.1) fun s109=>
 opt (az q108.2) fun q110=>
 opt (aH .i64 q110.1) fun n111=>
 opt (az q110.2) fun q112=>
 opt (aP q112.1) fun b113=>
 opt (aO q112.2) fun u114=>
 cond (!b113) (
 callK (ρ.call 170 [LV.int .i64 (7 : Int)] μ104) (fun v115 μ116 =>
 opt (aS v115) fun xs119=>
 opt (aO xs119) fun u120=>
 opt (iy ρ s109 n111 o0_0 o0_1 o0_2 μ116) (kS ρ dW [.block 0,.seq (cA 148 [1,1,1,1,1])] [(4,0),(5,0)])) (pX bq)) (
 opt (iy ρ s109 n111 o0_0 o0_1 o0_2 μ104) (kS ρ dW [.block 0,.seq (cA 148 [1,1,1,1,1])] [(4,0),(5,0)]))) (pX bq)) (
 cond (decide (x6 = (39 : Int))) (
 callK (ρ.call 173 [LV.cv (CV.ref x0l x0i 0), LV.int .i64 x1] μ87) (fun v123 μ124 =>
 opt (aS v123) fun xs127=>
 opt (az xs127) fun q128=>
 d8 q128.1 fun n129 n130 s131=>
 opt (az q128.2) fun q132=>
 opt (aH .i64 q132.1) fun n133=>
 opt (aO q132.2) fun u134=>
 some (ct n133 n129 n130 s131 μ124)) (pX bq)) (
 cond (decide (x6 = (34 : Int))) (
 callK (ρ.call 173 [LV.cv (CV.ref x0l x0i 0), LV.int .i64 x1] μ87) (fun v135 μ136 =>
 opt (aS v135) fun xs139=>
 opt (az xs139) fun q140=>
 d8 q140.1 fun n141 n142 s143=>
 opt (az q140.2) fun q144=>
 opt (aH .i64 q144.1) fun n145=>
 opt (aO q144.2) fun u146=>
 some (ct n145 n141 n142 s143 μ136)) (pX bq)) (
 opt (mR ρ x0l x0i x1 o0_0 o0_1 o0_2 μ87) (kS ρ dW [] [(4,0),(5,0)])))))) (pX bq)) (
 cond (decide (x6 = (46 : Int))) (
 callK (ρ.call 172 [LV.cv (CV.ref x0l x0i 0), LV.int .i64 x1] μ70) (fun v160 μ161 =>
 opt (aS v160) fun xs164=>
 opt (az xs164) fun q165=>
 opt (aL q165.1) fun s166=>
 opt (az q165.2) fun q167=>
 opt (aH .i64 q167.1) fun n168=>
 opt (az q167.2) fun q169=>
 opt (aP q169.1) fun b170=>
 opt (aO q169.2) fun u171=>
 cond (!b170) (
 callK (ρ.call 170 [LV.int .i64 (7 : Int)] μ161) (fun v172 μ173 =>
 opt (aS v172) fun xs176=>
 opt (aO xs176) fun u177=>
 opt (iy ρ s166 n168 o0_0 o0_1 o0_2 μ173) (kS ρ dW [.block 0,.seq (cA 148 [1,1,1,1,1])] [(4,0),(5,0)])) (pX bq)) (
 opt (iy ρ s166 n168 o0_0 o0_1 o0_2 μ161) (kS ρ dW [.block 0,.seq (cA 148 [1,1,1,1,1])] [(4,0),(5,0)]))) (pX bq)) (
 cond (decide (x6 = (39 : Int))) (
 callK (ρ.call 173 [LV.cv (CV.ref x0l x0i 0), LV.int .i64 x1] μ70) (fun v180 μ181 =>
 opt (aS v180) fun xs184=>
 opt (az xs184) fun q185=>
 d8 q185.1 fun n186 n187 s188=>
 opt (az q185.2) fun q189=>
 opt (aH .i64 q189.1) fun n190=>
 opt (aO q189.2) fun u191=>
 some (ct n190 n186 n187 s188 μ181)) (pX bq)) (
 cond (decide (x6 = (34 : Int))) (
 callK (ρ.call 173 [LV.cv (CV.ref x0l x0i 0), LV.int .i64 x1] μ70) (fun v192 μ193 =>
 opt (aS v192) fun xs196=>
 opt (az xs196) fun q197=>
 d8 q197.1 fun n198 n199 s200=>
 opt (az q197.2) fun q201=>
 opt (aH .i64 q201.1) fun n202=>
 opt (aO q201.2) fun u203=>
 some (ct n202 n198 n199 s200 μ193)) (pX bq)) (
 opt (mR ρ x0l x0i x1 o0_0 o0_1 o0_2 μ70) (kS ρ dW [] [(4,0),(5,0)]))))))) (pX bq))) (pX bq)) (pX bq):=by kernel_rfl
theorem AL (x5 o0_0 o0_1 o0_2 μ):kB ρ 148 dW [] (ct x5 o0_0 o0_1 o0_2 μ)=
 some (.ret (LV.ltup [LV.cv (CV.agg [CV.int .i64 o0_0,CV.int .i64 o0_1,CV.str o0_2]),LV.int .i64 x5]) μ):=by kernel_rfl
theorem AM (pv μ):kB ρ 148 dW [] (bq pv μ)=
 ay (below (List.length μ) pv) (some (.panic pv μ)):=by kernel_rfl
theorem N3 (al ai b μ):aG E ρ 148 [LV.cv (CV.ref al ai 0),LV.int .i64 b] μ=
 opt (bv E.P 9 (aZ μ al ai) 0) fun v1=>
 opt (aL v1) fun s2=>
 opt (a7 s2 b) fun y3=>
 callK (ρ.call 166 [LV.cv (CV.ref al ai 0)] μ) (fun v4 μ5 =>
 opt (aP v4) fun b8=>
 cond (b8) (
 callK (ρ.call 132 [LV.int .u8 (y3.toNat : Int)] μ5) (fun v9 μ10 =>
 opt (aP v9) fun b13=>
 cond (b13) (
 callK (ρ.call 167 [LV.cv (CV.ref al ai 0), LV.int .i64 b] μ10) (fun v14 μ15 =>
 opt (aS v14) fun xs18=>
 opt (az xs18) fun q19=>
 d8 q19.1 fun n20 n21 s22=>
 opt (az q19.2) fun q23=>
 opt (aH .i64 q23.1) fun n24=>
 opt (az q23.2) fun q25=>
 opt (aP q25.1) fun b26=>
 opt (aO q25.2) fun u27=>
 cond (b26) (
 some (.ret (LV.ltup [LV.cv (CV.agg [CV.int .i64 n20,CV.int .i64 n21,CV.str s22]),LV.int .i64 n24]) μ15)) (
 opt (o6 ρ al ai b (y3.toNat:Int) (0:Int) (0:Int) ([]:List UInt8) μ15) (kB ρ 148 dW []))) pP) (
 opt (o6 ρ al ai b (y3.toNat:Int) (0:Int) (0:Int) ([]:List UInt8) μ10) (kB ρ 148 dW []))) pP) (
 opt (o6 ρ al ai b (y3.toNat:Int) (0:Int) (0:Int) ([]:List UInt8) μ5) (kB ρ 148 dW []))) pP:=by kernel_rfl
def B1 (x0l x0i:Nat):SegD:=⟨r9,[(2,0)],cA 166 [1,1],mS [(0,LV.cv (CV.ref x0l x0i 0))] []⟩
def Ft (x0l x0i:Nat)(μ:Mu):=(B1 x0l x0i).seg ρ μ
def lR (x2:Bool)(μ:Mu):St:= .ret (mS [(2,LV.bool x2)] []) μ
def B2 (x0l x0i:Nat):SegD:=⟨r9,[(2,0)],cA 166 [1,1,1],mS [(0,LV.cv (CV.ref x0l x0i 0))] []⟩
def Fu (x0l x0i:Nat)(μ:Mu):=(B2 x0l x0i).seg ρ μ
def lS (x2:Bool)(μ:Mu):St:= .ret (mS [(2,LV.bool x2)] []) μ
def FQ (pv:CV)(μ:Mu):St:= .panic pv (mS [] []) μ
theorem I5 (x0l x0i μ):(B2 x0l x0i).sK ρ μ=
 opt (bv E.P 32 (aZ μ x0l x0i) 2) fun v5=>
 opt (cg v5) fun l6=>
 opt (bv E.P 32 (aZ μ x0l x0i) 2) fun v7=>
 opt (cg v7) fun l8=>
 opt (cE l6 (IntKind.wrap .i64 ((List.length l8:Int) -(1:Int)))) fun c9=>
 d8 (LV.cv c9) fun n10 n11 s12=>
 cond (decide (n10 = (2 : Int))) (
 callK (ρ.call 50 [LV.osl [CV.str ([40] : List UInt8), CV.str ([44] : List UInt8), CV.str ([47] : List UInt8), CV.str ([61] : List UInt8)], LV.str s12] μ) (fun v13 μ14 =>
 opt (aP v13) fun b17=>
 some (lS b17 μ14)) (pX FQ)) (
 some (lS false μ)):=by kernel_rfl
theorem AO (x2 μ):kS ρ r9 [] [(2,0)] (lS x2 μ)=
 some (lR x2 μ):=by kernel_rfl
theorem I4 (x0l x0i μ):(B1 x0l x0i).sK ρ μ=
 opt (bv E.P 32 (aZ μ x0l x0i) 2) fun v3=>
 opt (cg v3) fun l4=>
 cond (decide ((List.length l4 : Int) = (0 : Int))) (
 some (lR true μ)) (
 opt (Fu ρ x0l x0i μ) (kS ρ r9 [] [(2,0)])):=by kernel_rfl
theorem AN (x2 μ):kB ρ 166 r9 [] (lR x2 μ)=
 some (.ret (LV.bool x2) μ):=by kernel_rfl
theorem N4 (al ai μ):aG E ρ 166 [LV.cv (CV.ref al ai 0)] μ=
 opt (bv E.P 4 (aZ μ al ai) 1) fun v1=>
 opt (aP v1) fun b2=>
 cond (!b2) (
 some (.ret (LV.bool false) μ)) (
 opt (Ft ρ al ai μ) (kB ρ 166 r9 [])):=by kernel_rfl
def B3 (x0l x0i:Nat)(x10 x11 o0_0 o0_1:Int)(o0_2:List UInt8):SegD:=⟨lk,[(4,0),(5,0),(6,0)],cA 167 [1,1,1,1,1],mS [(0,LV.cv (CV.ref x0l x0i 0)),(4,LV.loc 0 0),(10,LV.int .i64 x10),(11,LV.int .i64 x11)] [Ob.cells [LV.int .i64 o0_0,LV.int .i64 o0_1,LV.str o0_2]]⟩
def tq (x0l x0i:Nat)(x10 x11 o0_0 o0_1:Int)(o0_2:List UInt8)(μ:Mu):=(B3 x0l x0i x10 x11 o0_0 o0_1 o0_2).seg ρ μ
def B4 (x0l x0i:Nat)(x10 x11 o0_0 o0_1:Int)(o0_2:List UInt8):SegD:=⟨lk,[(4,0),(5,0),(6,0)],cA 167 [1,1,1,1,1,1],mS [(0,LV.cv (CV.ref x0l x0i 0)),(4,LV.loc 0 0),(10,LV.int .i64 x10),(11,LV.int .i64 x11)] [Ob.cells [LV.int .i64 o0_0,LV.int .i64 o0_1,LV.str o0_2]]⟩
def xw (x0l x0i:Nat)(x10 x11 o0_0 o0_1:Int)(o0_2:List UInt8)(μ:Mu):=(B4 x0l x0i x10 x11 o0_0 o0_1 o0_2).seg ρ μ
def pk (x5:Int)(x6:Bool)(o0_0 o0_1:Int)(o0_2:List UInt8)(μ:Mu):St:= .ret (mS [(4,LV.loc 0 0),(5,LV.int .i64 x5),(6,LV.bool x6)] [Ob.cells [LV.int .i64 o0_0,LV.int .i64 o0_1,LV.str o0_2]]) μ
def vP (pv:CV)(μ:Mu):St:= .panic pv (mS [] []) μ
def pi (x5:Int)(x6:Bool)(o0_0 o0_1:Int)(o0_2:List UInt8)(μ:Mu):St:= .ret (mS [(4,LV.loc 0 0),(5,LV.int .i64 x5),(6,LV.bool x6)] [Ob.cells [LV.int .i64 o0_0,LV.int .i64 o0_1,LV.str o0_2]]) μ
def pj (pv:CV)(μ:Mu):St:= .panic pv (mS [] []) μ
theorem I7 (x0l x0i x10 x11 o0_0 o0_1 o0_2 μ):(B4 x0l x0i x10 x11 o0_0 o0_1 o0_2).sK ρ μ=
 callK (ρ.call 189 [LV.cv (CV.ref x0l x0i 0), LV.int .i64 x10, LV.int .i64 (IntKind.wrap .i64 (x10 + x11))] μ) (fun v39 μ40 =>
 opt (aS v39) fun xs43=>
 opt (aO xs43) fun u44=>
 opt (bv E.P 9 (aZ μ40 x0l x0i) 0) fun v45=>
 opt (aL v45) fun s46=>
 opt (bZ s46 x10 (IntKind.wrap .i64 (x10+x11))) fun s47=>
 callK (ρ.call 86 [LV.str s47] μ40) (fun v48 μ49 =>
 d8 v48 fun n52 n53 s54=>
 some (pk (IntKind.wrap .i64 (x10+x11)) true n52 n53 s54 μ49)) (pX vP)) (pX vP):=by kernel_rfl
theorem AR (x5 x6 o0_0 o0_1 o0_2 μ):kS ρ lk [] [(4,0),(5,0),(6,0)] (pk x5 x6 o0_0 o0_1 o0_2 μ)=
 some (pi x5 x6 o0_0 o0_1 o0_2 μ):=by kernel_rfl
theorem I6 (x0l x0i x10 x11 o0_0 o0_1 o0_2 μ):(B3 x0l x0i x10 x11 o0_0 o0_1 o0_2).sK ρ μ=
 opt (bv E.P 9 (aZ μ x0l x0i) 0) fun v31=>
 opt (aL v31) fun s32=>
 cond (decide ((List.length s32 : Int) < IntKind.wrap .i64 (x10 + x11))) (
 callK (ρ.call 170 [LV.int .i64 (7 : Int)] μ) (fun v33 μ34 =>
 opt (aS v33) fun xs37=>
 opt (aO xs37) fun u38=>
 opt (xw ρ x0l x0i x10 x11 o0_0 o0_1 o0_2 μ34) (kS ρ lk [] [(4,0),(5,0),(6,0)])) (pX pj)) (
 opt (xw ρ x0l x0i x10 x11 o0_0 o0_1 o0_2 μ) (kS ρ lk [] [(4,0),(5,0),(6,0)])):=by kernel_rfl
theorem AP (x5 x6 o0_0 o0_1 o0_2 μ):kB ρ 167 lk [] (pi x5 x6 o0_0 o0_1 o0_2 μ)=
 some (.ret (LV.ltup [LV.cv (CV.agg [CV.int .i64 o0_0,CV.int .i64 o0_1,CV.str o0_2]),LV.int .i64 x5,LV.bool x6]) μ):=by kernel_rfl
theorem AQ (pv μ):kB ρ 167 lk [] (pj pv μ)=
 ay (below (List.length μ) pv) (some (.panic pv μ)):=by kernel_rfl
theorem N5 (al ai b μ):aG E ρ 167 [LV.cv (CV.ref al ai 0),LV.int .i64 b] μ=
 callK (ρ.call 169 [LV.cv (CV.ref al ai 0), LV.int .i64 b, LV.cv (CV.clo 132 [])] μ) (fun v1 μ2 =>
 opt (aS v1) fun xs5=>
 opt (az xs5) fun q6=>
 opt (aL q6.1) fun s7=>
 opt (az q6.2) fun q8=>
 opt (aH .i64 q8.1) fun n9=>
 opt (aO q8.2) fun u10=>
 callK (ρ.call 168 [LV.cv (CV.ref al ai 0), LV.int .i64 n9] μ2) (fun v11 μ12 =>
 opt (aS v11) fun xs15=>
 opt (az xs15) fun q16=>
 opt (aH .u8 q16.1) fun n17=>
 opt (az q16.2) fun q18=>
 opt (aH .i64 q18.1) fun n19=>
 opt (aO q18.2) fun u20=>
 callK (ρ.call 45 [LV.str s7] μ12) (fun v21 μ22 =>
 opt (aS v21) fun xs25=>
 opt (az xs25) fun q26=>
 opt (aH .i64 q26.1) fun n27=>
 opt (az q26.2) fun q28=>
 opt (dw q28.1) fun c29=>
 opt (aO q28.2) fun u30=>
 cond (decide ((2 : Int) < (List.length s7 : Int))) (
 some (.ret (LV.ltup [LV.cv (CV.agg [CV.int .i64 (0:Int),CV.int .i64 (0:Int),CV.str ([]:List UInt8)]),LV.int .i64 b,LV.bool false]) μ22)) (
 cond (decide (n27 < (1 : Int))) (
 some (.ret (LV.ltup [LV.cv (CV.agg [CV.int .i64 (0:Int),CV.int .i64 (0:Int),CV.str ([]:List UInt8)]),LV.int .i64 b,LV.bool false]) μ22)) (
 cond (decide ((60 : Int) < n27)) (
 some (.ret (LV.ltup [LV.cv (CV.agg [CV.int .i64 (0:Int),CV.int .i64 (0:Int),CV.str ([]:List UInt8)]),LV.int .i64 b,LV.bool false]) μ22)) (
 cond (!decide (n17 = (72 : Int))) (
 cond (!decide (n17 = (104 : Int))) (
 some (.ret (LV.ltup [LV.cv (CV.agg [CV.int .i64 (0:Int),CV.int .i64 (0:Int),CV.str ([]:List UInt8)]),LV.int .i64 b,LV.bool false]) μ22)) (
 opt (tq ρ al ai n19 n27 (0:Int) (0:Int) ([]:List UInt8) μ22) (kB ρ 167 lk []))) (
 opt (tq ρ al ai n19 n27 (0:Int) (0:Int) ([]:List UInt8) μ22) (kB ρ 167 lk [])))))) pP) pP) pP:=by kernel_rfl
def B5 (x0l x0i:Nat)(x1:Int):SegD:=⟨Dx,[(4,0),(5,0)],cA 168 [1,1,1],mS [(0,LV.cv (CV.ref x0l x0i 0)),(1,LV.int .i64 x1)] []⟩
def Fv (x0l x0i:Nat)(x1:Int)(μ:Mu):=(B5 x0l x0i x1).seg ρ μ
def pm (x4 x5:Int)(μ:Mu):St:= .ret (mS [(4,LV.int .u8 x4),(5,LV.int .i64 x5)] []) μ
theorem I8 (x0l x0i x1 μ):(B5 x0l x0i x1).sK ρ μ=
 opt (bv E.P 9 (aZ μ x0l x0i) 0) fun v8=>
 opt (aL v8) fun s9=>
 opt (a7 s9 x1) fun y10=>
 some (pm (y10.toNat:Int) (IntKind.wrap .i64 (x1+(1:Int))) μ):=by kernel_rfl
theorem AS (x4 x5 μ):kB ρ 168 Dx [] (pm x4 x5 μ)=
 some (.ret (LV.ltup [LV.int .u8 x4,LV.int .i64 x5]) μ):=by kernel_rfl
theorem N6 (al ai b μ):aG E ρ 168 [LV.cv (CV.ref al ai 0),LV.int .i64 b] μ=
 callK (ρ.call 190 [LV.cv (CV.ref al ai 0), LV.int .i64 b] μ) (fun v1 μ2 =>
 opt (aH .i64 v1) fun n5=>
 opt (bv E.P 9 (aZ μ2 al ai) 0) fun v6=>
 opt (aL v6) fun s7=>
 cond (decide ((List.length s7 : Int) ≤ n5)) (
 some (.ret (LV.ltup [LV.int .u8 (0:Int),LV.int .i64 n5]) μ2)) (
 opt (Fv ρ al ai n5 μ2) (kB ρ 168 Dx []))) pP:=by kernel_rfl
def CC (x0l x0i:Nat)(x1:Int)(x2f:FuncId)(x8:List CV):SegD:=⟨sa,[],cA 169 [1,1,0,0],mS [(0,LV.cv (CV.ref x0l x0i 0)),(1,LV.int .i64 x1),(2,LV.cv (CV.clo x2f [])),(8,LV.osl x8)] []⟩
def xI (x0l x0i:Nat)(x1:Int)(x2f:FuncId)(x8:List CV)(μ:Mu):=(CC x0l x0i x1 x2f x8).loop ρ μ
def mc (x6:List UInt8)(x7:Int)(μ:Mu):St:= .ret (mS [(6,LV.str x6),(7,LV.int .i64 x7)] []) μ
def B6 (x0l x0i:Nat)(x2f:FuncId)(x8:List CV)(x9 x10:Int):SegD:=⟨sa,[(0,0),(1,0),(2,0),(8,1)],cA 169 [1,1,0,0,0,1,1],mS [(0,LV.cv (CV.ref x0l x0i 0)),(2,LV.cv (CV.clo x2f [])),(8,LV.osl x8),(9,LV.int .u8 x9),(10,LV.int .i64 x10)] []⟩
def Fw (x0l x0i:Nat)(x2f:FuncId)(x8:List CV)(x9 x10:Int)(μ:Mu):=(B6 x0l x0i x2f x8 x9 x10).seg ρ μ
def pn (x0l x0i:Nat)(x1:Int)(x2f:FuncId)(x8:List CV)(μ:Mu):St:= .norm (mS [(0,LV.cv (CV.ref x0l x0i 0)),(1,LV.int .i64 x1),(2,LV.cv (CV.clo x2f [])),(8,LV.osl x8)] []) μ
def vU (pv:CV)(μ:Mu):St:= .panic pv (mS [] []) μ
theorem I9 (x0l x0i x2f x8 x9 x10 μ):(B6 x0l x0i x2f x8 x9 x10).sK ρ μ=
 ay (dQ 1 x8 [CV.int .u8 x9]) (
 some (pn x0l x0i x10 x2f (x8++[CV.int .u8 x9]) μ)):=by kernel_rfl
theorem AT (x0l x0i x1 x2f x8 μ):kR ρ sa [.block 1] [] (cA 169 [1,1,0,0]) (pn x0l x0i x1 x2f x8 μ)=
 xI ρ x0l x0i x1 x2f x8 μ:=by kernel_rfl
theorem zh (x0l x0i x1 x2f x8 μ):(CC x0l x0i x1 x2f x8).rK ρ μ=
 callK (ρ.call 168 [LV.cv (CV.ref x0l x0i 0), LV.int .i64 x1] μ) (fun v1 μ2 =>
 opt (aS v1) fun xs5=>
 opt (az xs5) fun q6=>
 opt (aH .u8 q6.1) fun n7=>
 opt (az q6.2) fun q8=>
 opt (aH .i64 q8.1) fun n9=>
 opt (aO q8.2) fun u10=>
 cond (decide (n7 = (0 : Int))) (
 opt (bb x8) fun s11=>
 some (mc s11 x1 μ2)) (
 callK (ρ.call x2f [LV.int .u8 n7] μ2) (fun v12 μ13 =>
 opt (aP v12) fun b16=>
 cond (!b16) (
 opt (bb x8) fun s17=>
 some (mc s17 x1 μ13)) (
 opt (Fw ρ x0l x0i x2f x8 n7 n9 μ13) (kR ρ sa [.block 1] [] (cA 169 [1,1,0,0])))) (pX vU))) (pX vU):=by kernel_rfl
theorem Bs (x6 x7 μ):kB ρ 169 sa [.block 0] (mc x6 x7 μ)=
 some (.ret (LV.ltup [LV.str x6,LV.int .i64 x7]) μ):=by kernel_rfl
theorem N7 (al ai b cf μ):aG E ρ 169 [LV.cv (CV.ref al ai 0),LV.int .i64 b,LV.cv (CV.clo cf [])] μ=
 opt (xI ρ al ai b cf [] μ) (kB ρ 169 sa [.block 0]):=by kernel_rfl
theorem N8 (a μ):aG E ρ 170 [LV.int .i64 a] μ=
 some (.panic (CV.iface 162 (CV.agg [CV.int .i64 a])) μ):=by kernel_rfl
def B7 (x0l x0i:Nat)(x1:Int)(x6 x7:List UInt8)(x8:Bool)(o0_0 o0_1:Int)(o0_2:List UInt8):SegD:=⟨cH,[(4,0),(5,0)],cA 171 [1,1,1,1],mS [(0,LV.cv (CV.ref x0l x0i 0)),(1,LV.int .i64 x1),(4,LV.loc 0 0),(6,LV.str x6),(7,LV.str x7),(8,LV.bool x8)] [Ob.cells [LV.int .i64 o0_0,LV.int .i64 o0_1,LV.str o0_2]]⟩
def mU (x0l x0i:Nat)(x1:Int)(x6 x7:List UInt8)(x8:Bool)(o0_0 o0_1:Int)(o0_2:List UInt8)(μ:Mu):=(B7 x0l x0i x1 x6 x7 x8 o0_0 o0_1 o0_2).seg ρ μ
def iA (x5 o0_0 o0_1:Int)(o0_2:List UInt8)(μ:Mu):St:= .ret (mS [(4,LV.loc 0 0),(5,LV.int .i64 x5)] [Ob.cells [LV.int .i64 o0_0,LV.int .i64 o0_1,LV.str o0_2]]) μ
def gh (pv:CV)(μ:Mu):St:= .panic pv (mS [] []) μ
def ym (x1:Int)(x6 x7:List UInt8)(x14:Int)(x15:List UInt8)(x16:Int)(x17:Bool)(o0_0 o0_1:Int)(o0_2:List UInt8):SegD:=⟨cH,[(4,0),(5,0)],cA 171 [1,1,1,1,1,1],mS [(1,LV.int .i64 x1),(4,LV.loc 0 0),(6,LV.str x6),(7,LV.str x7),(14,LV.int .u8 x14),(15,LV.str x15),(16,LV.int .i64 x16),(17,LV.bool x17)] [Ob.cells [LV.int .i64 o0_0,LV.int .i64 o0_1,LV.str o0_2]]⟩
def uV (x1:Int)(x6 x7:List UInt8)(x14:Int)(x15:List UInt8)(x16:Int)(x17:Bool)(o0_0 o0_1:Int)(o0_2:List UInt8)(μ:Mu):=(ym x1 x6 x7 x14 x15 x16 x17 o0_0 o0_1 o0_2).seg ρ μ
def yn (x1:Int)(x6 x7:List UInt8)(x14:Int)(x15:List UInt8)(x17:Bool)(o0_0 o0_1:Int)(o0_2:List UInt8):SegD:=⟨cH,[(4,0),(5,0)],cA 171 [1,1,1,1,1,1,1],mS [(1,LV.int .i64 x1),(4,LV.loc 0 0),(6,LV.str x6),(7,LV.str x7),(14,LV.int .u8 x14),(15,LV.str x15),(17,LV.bool x17)] [Ob.cells [LV.int .i64 o0_0,LV.int .i64 o0_1,LV.str o0_2]]⟩
def uW (x1:Int)(x6 x7:List UInt8)(x14:Int)(x15:List UInt8)(x17:Bool)(o0_0 o0_1:Int)(o0_2:List UInt8)(μ:Mu):=(yn x1 x6 x7 x14 x15 x17 o0_0 o0_1 o0_2).seg ρ μ
def yo (x1:Int)(x6 x7:List UInt8)(x14:Int)(x15:List UInt8)(x17:Bool)(o0_0 o0_1:Int)(o0_2:List UInt8):SegD:=⟨cH,[(4,0),(5,0)],cA 171 [1,1,1,1,1,1,1,1],mS [(1,LV.int .i64 x1),(4,LV.loc 0 0),(6,LV.str x6),(7,LV.str x7),(14,LV.int .u8 x14),(15,LV.str x15),(17,LV.bool x17)] [Ob.cells [LV.int .i64 o0_0,LV.int .i64 o0_1,LV.str o0_2]]⟩
def mT (x1:Int)(x6 x7:List UInt8)(x14:Int)(x15:List UInt8)(x17:Bool)(o0_0 o0_1:Int)(o0_2:List UInt8)(μ:Mu):=(yo x1 x6 x7 x14 x15 x17 o0_0 o0_1 o0_2).seg ρ μ
def yp (x1 x14:Int)(x17:Bool)(x18 x19:List UInt8)(o0_0 o0_1:Int)(o0_2:List UInt8):SegD:=⟨cH,[(4,0),(5,0)],cA 171 [1,1,1,1,1,1,1,1,1,1,1],mS [(1,LV.int .i64 x1),(4,LV.loc 0 0),(14,LV.int .u8 x14),(17,LV.bool x17),(18,LV.str x18),(19,LV.str x19)] [Ob.cells [LV.int .i64 o0_0,LV.int .i64 o0_1,LV.str o0_2]]⟩
def uX (x1 x14:Int)(x17:Bool)(x18 x19:List UInt8)(o0_0 o0_1:Int)(o0_2:List UInt8)(μ:Mu):=(yp x1 x14 x17 x18 x19 o0_0 o0_1 o0_2).seg ρ μ
def kQ (x5 o0_0 o0_1:Int)(o0_2:List UInt8)(μ:Mu):St:= .ret (mS [(4,LV.loc 0 0),(5,LV.int .i64 x5)] [Ob.cells [LV.int .i64 o0_0,LV.int .i64 o0_1,LV.str o0_2]]) μ
def yq (x1:Int)(x18 x19:List UInt8)(o0_0 o0_1:Int)(o0_2:List UInt8):SegD:=⟨cH,[(4,0),(5,0)],cA 171 [1,1,1,1,1,1,1,1,1,1,1,1],mS [(1,LV.int .i64 x1),(4,LV.loc 0 0),(18,LV.str x18),(19,LV.str x19)] [Ob.cells [LV.int .i64 o0_0,LV.int .i64 o0_1,LV.str o0_2]]⟩
def uY (x1:Int)(x18 x19:List UInt8)(o0_0 o0_1:Int)(o0_2:List UInt8)(μ:Mu):=(yq x1 x18 x19 o0_0 o0_1 o0_2).seg ρ μ
def kT (x5 o0_0 o0_1:Int)(o0_2:List UInt8)(μ:Mu):St:= .ret (mS [(4,LV.loc 0 0),(5,LV.int .i64 x5)] [Ob.cells [LV.int .i64 o0_0,LV.int .i64 o0_1,LV.str o0_2]]) μ
def nH (x5 o0_0 o0_1:Int)(o0_2:List UInt8)(μ:Mu):St:= .ret (mS [(4,LV.loc 0 0),(5,LV.int .i64 x5)] [Ob.cells [LV.int .i64 o0_0,LV.int .i64 o0_1,LV.str o0_2]]) μ
def kP (pv:CV)(μ:Mu):St:= .panic pv (mS [] []) μ
def nG (x5 o0_0 o0_1:Int)(o0_2:List UInt8)(μ:Mu):St:= .ret (mS [(4,LV.loc 0 0),(5,LV.int .i64 x5)] [Ob.cells [LV.int .i64 o0_0,LV.int .i64 o0_1,LV.str o0_2]]) μ
def gH (pv:CV)(μ:Mu):St:= .panic pv (mS [] []) μ
def kN (x5 o0_0 o0_1:Int)(o0_2:List UInt8)(μ:Mu):St:= .ret (mS [(4,LV.loc 0 0),(5,LV.int .i64 x5)] [Ob.cells [LV.int .i64 o0_0,LV.int .i64 o0_1,LV.str o0_2]]) μ
def kO (pv:CV)(μ:Mu):St:= .panic pv (mS [] []) μ
theorem Hy (x1 x18 x19 o0_0 o0_1 o0_2 μ):(yq x1 x18 x19 o0_0 o0_1 o0_2).sK ρ μ=
 cond (!decide (x19 = ([48] : List UInt8))) (
 ay (bf (List.length ([69] : List UInt8) + List.length x19)) (
 ay (bf (List.length x18 + List.length (([69] : List UInt8) ++ x19))) (
 some (kT x1 (1:Int) (1:Int) (x18++(([69]:List UInt8)++x19)) μ)))) (
 some (kT x1 (1:Int) (1:Int) x18 μ)):=by kernel_rfl
theorem zu (x5 o0_0 o0_1 o0_2 μ):kS ρ cH [] [(4,0),(5,0)] (kT x5 o0_0 o0_1 o0_2 μ)=
 some (kQ x5 o0_0 o0_1 o0_2 μ):=by kernel_rfl
theorem Hx (x1 x14 x17 x18 x19 o0_0 o0_1 o0_2 μ):(yp x1 x14 x17 x18 x19 o0_0 o0_1 o0_2).sK ρ μ=
 cond (decide (x14 = (68 : Int))) (
 cond (x17) (
 ay (bf (List.length x18 + List.length ([68] : List UInt8))) (
 ay (bf (List.length (x18 ++ ([68] : List UInt8)) + List.length x19)) (
 some (kQ x1 (1:Int) (2:Int) ((x18++([68]:List UInt8))++x19) μ)))) (
 opt (uY ρ x1 x18 x19 o0_0 o0_1 o0_2 μ) (kS ρ cH [] [(4,0),(5,0)]))) (
 opt (uY ρ x1 x18 x19 o0_0 o0_1 o0_2 μ) (kS ρ cH [] [(4,0),(5,0)])):=by kernel_rfl
theorem qp (x5 o0_0 o0_1 o0_2 μ):kS ρ cH [] [(4,0),(5,0)] (kQ x5 o0_0 o0_1 o0_2 μ)=
 some (nH x5 o0_0 o0_1 o0_2 μ):=by kernel_rfl
theorem Hw (x1 x6 x7 x14 x15 x17 o0_0 o0_1 o0_2 μ):(yo x1 x6 x7 x14 x15 x17 o0_0 o0_1 o0_2).sK ρ μ=
 callK (ρ.call 65 [LV.str x6, LV.bool true] μ) (fun v75 μ76 =>
 opt (aL v75) fun s79=>
 ay (bf (List.length s79 + List.length ([46] : List UInt8))) (
 callK (ρ.call 65 [LV.str x7, LV.bool false] μ76) (fun v80 μ81 =>
 opt (aL v80) fun s84=>
 ay (bf (List.length (s79 ++ ([46] : List UInt8)) + List.length s84)) (
 cond (x17) (
 callK (ρ.call 45 [LV.str x15] μ81) (fun v85 μ86 =>
 opt (aS v85) fun xs89=>
 opt (az xs89) fun q90=>
 opt (aH .i64 q90.1) fun n91=>
 opt (az q90.2) fun q92=>
 opt (dw q92.1) fun c93=>
 opt (aO q92.2) fun u94=>
 callK (ρ.call 66 [LV.int .i64 n91] μ86) (fun v95 μ96 =>
 opt (aL v95) fun s99=>
 opt (uX ρ x1 x14 x17 ((s79++([46]:List UInt8))++s84) s99 o0_0 o0_1 o0_2 μ96) (kS ρ cH [] [(4,0),(5,0)])) (pX kP)) (pX kP)) (
 opt (uX ρ x1 x14 x17 ((s79++([46]:List UInt8))++s84) ([48]:List UInt8) o0_0 o0_1 o0_2 μ81) (kS ρ cH [] [(4,0),(5,0)])))) (pX kP))) (pX kP):=by kernel_rfl
theorem zt (x5 o0_0 o0_1 o0_2 μ):kS ρ cH [] [(4,0),(5,0)] (nH x5 o0_0 o0_1 o0_2 μ)=
 some (nG x5 o0_0 o0_1 o0_2 μ):=by kernel_rfl
theorem Hv (x1 x6 x7 x14 x15 x17 o0_0 o0_1 o0_2 μ):(yn x1 x6 x7 x14 x15 x17 o0_0 o0_1 o0_2).sK ρ μ=
 callK (ρ.call 193 [LV.str x6, LV.str x7] μ) (fun v64 μ65 =>
 opt (aH .i64 v64) fun n68=>
 cond (decide ((30 : Int) < n68)) (
 callK (ρ.call 170 [LV.int .i64 (7 : Int)] μ65) (fun v69 μ70 =>
 opt (aS v69) fun xs73=>
 opt (aO xs73) fun u74=>
 opt (mT ρ x1 x6 x7 x14 x15 x17 o0_0 o0_1 o0_2 μ70) (kS ρ cH [] [(4,0),(5,0)])) (pX gH)) (
 callK (ρ.call 194 [LV.str x15, LV.str ([45] : List UInt8)] μ65) (fun v105 μ106 =>
 opt (aL v105) fun s109=>
 cond (decide ((3 : Int) < (List.length s109 : Int))) (
 cond (x17) (
 callK (ρ.call 170 [LV.int .i64 (7 : Int)] μ106) (fun v110 μ111 =>
 opt (aS v110) fun xs114=>
 opt (aO xs114) fun u115=>
 opt (mT ρ x1 x6 x7 x14 x15 x17 o0_0 o0_1 o0_2 μ111) (kS ρ cH [] [(4,0),(5,0)])) (pX gH)) (
 opt (mT ρ x1 x6 x7 x14 x15 x17 o0_0 o0_1 o0_2 μ106) (kS ρ cH [] [(4,0),(5,0)]))) (
 opt (mT ρ x1 x6 x7 x14 x15 x17 o0_0 o0_1 o0_2 μ106) (kS ρ cH [] [(4,0),(5,0)]))) (pX gH))) (pX gH):=by kernel_rfl
theorem qn (x5 o0_0 o0_1 o0_2 μ):kS ρ cH [] [(4,0),(5,0)] (nG x5 o0_0 o0_1 o0_2 μ)=
 some (kN x5 o0_0 o0_1 o0_2 μ):=by kernel_rfl
theorem qo (pv μ):kS ρ cH [] [(4,0),(5,0)] (gH pv μ)=
 some (kO pv μ):=by kernel_rfl
theorem Hu (x1 x6 x7 x14 x15 x16 x17 o0_0 o0_1 o0_2 μ):(ym x1 x6 x7 x14 x15 x16 x17 o0_0 o0_1 o0_2).sK ρ μ=
 cond (x17) (
 opt (uW ρ x16 x6 x7 x14 x15 x17 o0_0 o0_1 o0_2 μ) (kS ρ cH [] [(4,0),(5,0)])) (
 opt (uW ρ x1 x6 x7 x14 x15 x17 o0_0 o0_1 o0_2 μ) (kS ρ cH [] [(4,0),(5,0)])):=by kernel_rfl
theorem zr (x5 o0_0 o0_1 o0_2 μ):kS ρ cH [] [(4,0),(5,0)] (kN x5 o0_0 o0_1 o0_2 μ)=
 some (iA x5 o0_0 o0_1 o0_2 μ):=by kernel_rfl
theorem zs (pv μ):kS ρ cH [] [(4,0),(5,0)] (kO pv μ)=
 some (gh pv μ):=by kernel_rfl
theorem Ja (x0l x0i x1 x6 x7 x8 o0_0 o0_1 o0_2 μ):(B7 x0l x0i x1 x6 x7 x8 o0_0 o0_1 o0_2).sK ρ μ=
 callK (ρ.call 191 [LV.cv (CV.ref x0l x0i 0), LV.int .i64 x1] μ) (fun v43 μ44 =>
 opt (aS v43) fun xs47=>
 opt (az xs47) fun q48=>
 opt (aH .u8 q48.1) fun n49=>
 opt (az q48.2) fun q50=>
 opt (aL q50.1) fun s51=>
 opt (az q50.2) fun q52=>
 opt (aH .i64 q52.1) fun n53=>
 opt (az q52.2) fun q54=>
 opt (aP q54.1) fun b55=>
 opt (aO q54.2) fun u56=>
 cond (!x8) (
 cond (!b55) (
 callK (ρ.call 192 [LV.str x6] μ44) (fun v57 μ58 =>
 d8 v57 fun n61 n62 s63=>
 some (iA x1 n61 n62 s63 μ58)) (pX gh)) (
 opt (uV ρ x1 x6 x7 n49 s51 n53 b55 o0_0 o0_1 o0_2 μ44) (kS ρ cH [] [(4,0),(5,0)]))) (
 opt (uV ρ x1 x6 x7 n49 s51 n53 b55 o0_0 o0_1 o0_2 μ44) (kS ρ cH [] [(4,0),(5,0)]))) (pX gh):=by kernel_rfl
theorem AU (x5 o0_0 o0_1 o0_2 μ):kB ρ 171 cH [] (iA x5 o0_0 o0_1 o0_2 μ)=
 some (.ret (LV.ltup [LV.cv (CV.agg [CV.int .i64 o0_0,CV.int .i64 o0_1,CV.str o0_2]),LV.int .i64 x5]) μ):=by kernel_rfl
theorem AV (pv μ):kB ρ 171 cH [] (gh pv μ)=
 ay (below (List.length μ) pv) (some (.panic pv μ)):=by kernel_rfl
theorem N9 (al ai b μ):aG E ρ 171 [LV.cv (CV.ref al ai 0),LV.int .i64 b] μ=
 callK (ρ.call 169 [LV.cv (CV.ref al ai 0), LV.int .i64 b, LV.cv (CV.clo 132 [])] μ) (fun v1 μ2 =>
 opt (aS v1) fun xs5=>
 opt (az xs5) fun q6=>
 opt (aL q6.1) fun s7=>
 opt (az q6.2) fun q8=>
 opt (aH .i64 q8.1) fun n9=>
 opt (aO q8.2) fun u10=>
 callK (ρ.call 168 [LV.cv (CV.ref al ai 0), LV.int .i64 n9] μ2) (fun v11 μ12 =>
 opt (aS v11) fun xs15=>
 opt (az xs15) fun q16=>
 opt (aH .u8 q16.1) fun n17=>
 opt (az q16.2) fun q18=>
 opt (aH .i64 q18.1) fun n19=>
 opt (aO q18.2) fun u20=>
 cond (decide (n17 = (46 : Int))) (
 callK (ρ.call 172 [LV.cv (CV.ref al ai 0), LV.int .i64 n9] μ12) (fun v21 μ22 =>
 opt (aS v21) fun xs25=>
 opt (az xs25) fun q26=>
 opt (aL q26.1) fun s27=>
 opt (az q26.2) fun q28=>
 opt (aH .i64 q28.1) fun n29=>
 opt (az q28.2) fun q30=>
 opt (aP q30.1) fun b31=>
 opt (aO q30.2) fun u32=>
 cond (!b31) (
 callK (ρ.call 169 [LV.cv (CV.ref al ai 0), LV.int .i64 n19, LV.cv (CV.clo 132 [])] μ22) (fun v33 μ34 =>
 opt (aS v33) fun xs37=>
 opt (az xs37) fun q38=>
 opt (aL q38.1) fun s39=>
 opt (az q38.2) fun q40=>
 opt (aH .i64 q40.1) fun n41=>
 opt (aO q40.2) fun u42=>
 opt (mU ρ al ai n41 s7 s39 true (0:Int) (0:Int) ([]:List UInt8) μ34) (kB ρ 171 cH [])) pP) (
 cond (decide (s7 = ([] : List UInt8))) (
 callK (ρ.call 169 [LV.cv (CV.ref al ai 0), LV.int .i64 n19, LV.cv (CV.clo 132 [])] μ22) (fun v124 μ125 =>
 opt (aS v124) fun xs128=>
 opt (az xs128) fun q129=>
 opt (aL q129.1) fun s130=>
 opt (az q129.2) fun q131=>
 opt (aH .i64 q131.1) fun n132=>
 opt (aO q131.2) fun u133=>
 opt (mU ρ al ai n132 s7 s130 true (0:Int) (0:Int) ([]:List UInt8) μ125) (kB ρ 171 cH [])) pP) (
 opt (mU ρ al ai n9 s7 ([]:List UInt8) false (0:Int) (0:Int) ([]:List UInt8) μ22) (kB ρ 171 cH [])))) pP) (
 opt (mU ρ al ai n9 s7 ([]:List UInt8) false (0:Int) (0:Int) ([]:List UInt8) μ12) (kB ρ 171 cH []))) pP) pP:=by kernel_rfl
def B8 (x0l x0i:Nat)(x8:Int):SegD:=⟨Dy,[(4,0),(5,0),(6,0)],cA 172 [1,1,1],mS [(0,LV.cv (CV.ref x0l x0i 0)),(8,LV.int .i64 x8)] []⟩
def Fx (x0l x0i:Nat)(x8:Int)(μ:Mu):=(B8 x0l x0i x8).seg ρ μ
def fq (x4:List UInt8)(x5:Int)(x6:Bool)(μ:Mu):St:= .ret (mS [(4,LV.str x4),(5,LV.int .i64 x5),(6,LV.bool x6)] []) μ
def j0 (pv:CV)(μ:Mu):St:= .panic pv (mS [] []) μ
theorem Jb (x0l x0i x8 μ):(B8 x0l x0i x8).sK ρ μ=
 callK (ρ.call 169 [LV.cv (CV.ref x0l x0i 0), LV.int .i64 x8, LV.cv (CV.clo 90 [])] μ) (fun v11 μ12 =>
 opt (aS v11) fun xs15=>
 opt (az xs15) fun q16=>
 opt (aL q16.1) fun s17=>
 opt (az q16.2) fun q18=>
 opt (aH .i64 q18.1) fun n19=>
 opt (aO q18.2) fun u20=>
 callK (ρ.call 168 [LV.cv (CV.ref x0l x0i 0), LV.int .i64 n19] μ12) (fun v21 μ22 =>
 opt (aS v21) fun xs25=>
 opt (az xs25) fun q26=>
 opt (aH .u8 q26.1) fun n27=>
 opt (az q26.2) fun q28=>
 opt (aH .i64 q28.1) fun n29=>
 opt (aO q28.2) fun u30=>
 callK (ρ.call 91 [LV.str s17] μ22) (fun v31 μ32 =>
 opt (aL v31) fun s35=>
 ay (bf (List.length ([46] : List UInt8) + List.length s35)) (
 ay (bf (List.length (([46] : List UInt8) ++ s35) + List.length ([46] : List UInt8))) (
 callK (ρ.call 51 [] μ32) (fun v36 μ37 =>
 opt (cg v36) fun l40=>
 callK (ρ.call 50 [LV.cv (CV.sl l40), LV.str ((([46] : List UInt8) ++ s35) ++ ([46] : List UInt8))] μ37) (fun v41 μ42 =>
 opt (aP v41) fun b45=>
 cond (b45) (
 cond (decide (n27 = (46 : Int))) (
 some (fq ((([46]:List UInt8)++s35)++([46]:List UInt8)) n29 true μ42)) (
 some (fq ((([46]:List UInt8)++s35)++([46]:List UInt8)) n29 false μ42))) (
 cond (decide ((([46] : List UInt8) ++ s35) ++ ([46] : List UInt8) = ([46, 84, 82, 85, 69, 46] : List UInt8))) (
 cond (decide (n27 = (46 : Int))) (
 some (fq ((([46]:List UInt8)++s35)++([46]:List UInt8)) n29 true μ42)) (
 some (fq ((([46]:List UInt8)++s35)++([46]:List UInt8)) n29 false μ42))) (
 cond (decide (n27 = (46 : Int))) (
 some (fq ((([46]:List UInt8)++s35)++([46]:List UInt8)) n29 (decide ((([46]:List UInt8)++s35)++([46]:List UInt8)=([46,70,65,76,83,69,46]:List UInt8))) μ42)) (
 some (fq ((([46]:List UInt8)++s35)++([46]:List UInt8)) n29 false μ42))))) (pX j0)) (pX j0)))) (pX j0)) (pX j0)) (pX j0):=by kernel_rfl
theorem AW (x4 x5 x6 μ):kB ρ 172 Dy [] (fq x4 x5 x6 μ)=
 some (.ret (LV.ltup [LV.str x4,LV.int .i64 x5,LV.bool x6]) μ):=by kernel_rfl
theorem Oa (al ai b μ):aG E ρ 172 [LV.cv (CV.ref al ai 0),LV.int .i64 b] μ=
 callK (ρ.call 168 [LV.cv (CV.ref al ai 0), LV.int .i64 b] μ) (fun v1 μ2 =>
 opt (aS v1) fun xs5=>
 opt (az xs5) fun q6=>
 opt (aH .u8 q6.1) fun n7=>
 opt (az q6.2) fun q8=>
 opt (aH .i64 q8.1) fun n9=>
 opt (aO q8.2) fun u10=>
 cond (!decide (n7 = (46 : Int))) (
 some (.ret (LV.ltup [LV.str ([]:List UInt8),LV.int .i64 b,LV.bool false]) μ2)) (
 opt (Fx ρ al ai n9 μ2) (kB ρ 172 Dy []))) pP:=by kernel_rfl
def CD (x0l x0i:Nat)(x1:Int)(x6:List UInt8)(x7:Int)(x8:List UInt8)(o0_0 o0_1:Int)(o0_2:List UInt8):SegD:=⟨iN,[(0,0),(1,0),(4,0),(7,0),(8,0)],cA 173 [1,1,1,1,0,1,0,0],mS [(0,LV.cv (CV.ref x0l x0i 0)),(1,LV.int .i64 x1),(4,LV.loc 0 0),(6,LV.str x6),(7,LV.int .i64 x7),(8,LV.str x8)] [Ob.cells [LV.int .i64 o0_0,LV.int .i64 o0_1,LV.str o0_2]]⟩
def xJ (x0l x0i:Nat)(x1:Int)(x6:List UInt8)(x7:Int)(x8:List UInt8)(o0_0 o0_1:Int)(o0_2:List UInt8)(μ:Mu):=(CD x0l x0i x1 x6 x7 x8 o0_0 o0_1 o0_2).loop ρ μ
def B9 (x0l x0i:Nat)(x1:Int)(x6:List UInt8)(x7:Int)(x8:List UInt8)(x9 o0_0 o0_1:Int)(o0_2:List UInt8):SegD:=⟨iN,[(0,0),(1,0),(4,0),(6,0),(7,0),(8,0)],cA 173 [1,1,1,1,0,1,0,0,0,0,1,1],mS [(0,LV.cv (CV.ref x0l x0i 0)),(1,LV.int .i64 x1),(4,LV.loc 0 0),(6,LV.str x6),(7,LV.int .i64 x7),(8,LV.str x8),(9,LV.int .i64 x9)] [Ob.cells [LV.int .i64 o0_0,LV.int .i64 o0_1,LV.str o0_2]]⟩
def xx (x0l x0i:Nat)(x1:Int)(x6:List UInt8)(x7:Int)(x8:List UInt8)(x9 o0_0 o0_1:Int)(o0_2:List UInt8)(μ:Mu):=(B9 x0l x0i x1 x6 x7 x8 x9 o0_0 o0_1 o0_2).seg ρ μ
def lT (x0l x0i:Nat)(x1:Int)(x6:List UInt8)(x7:Int)(x8:List UInt8)(o0_0 o0_1:Int)(o0_2:List UInt8)(μ:Mu):St:= .exit 0 (mS [(0,LV.cv (CV.ref x0l x0i 0)),(1,LV.int .i64 x1),(4,LV.loc 0 0),(6,LV.str x6),(7,LV.int .i64 x7),(8,LV.str x8)] [Ob.cells [LV.int .i64 o0_0,LV.int .i64 o0_1,LV.str o0_2]]) μ
def po (x0l x0i:Nat)(x1:Int)(x6:List UInt8)(x7:Int)(x8:List UInt8)(o0_0 o0_1:Int)(o0_2:List UInt8)(μ:Mu):St:= .norm (mS [(0,LV.cv (CV.ref x0l x0i 0)),(1,LV.int .i64 x1),(4,LV.loc 0 0),(6,LV.str x6),(7,LV.int .i64 x7),(8,LV.str x8)] [Ob.cells [LV.int .i64 o0_0,LV.int .i64 o0_1,LV.str o0_2]]) μ
def FR (pv:CV)(μ:Mu):St:= .panic pv (mS [] []) μ
def pM (x0l x0i:Nat)(x1 x7:Int)(x8:List UInt8)(o0_0 o0_1:Int)(o0_2:List UInt8)(μ:Mu):St:= .exit 0 (mS [(0,LV.cv (CV.ref x0l x0i 0)),(1,LV.int .i64 x1),(4,LV.loc 0 0),(7,LV.int .i64 x7),(8,LV.str x8)] [Ob.cells [LV.int .i64 o0_0,LV.int .i64 o0_1,LV.str o0_2]]) μ
def md (pv:CV)(μ:Mu):St:= .panic pv (mS [] []) μ
def yr (x0l x0i:Nat)(x1 x7:Int)(x8:List UInt8)(o0_0 o0_1:Int)(o0_2:List UInt8):SegD:=⟨iN,[(4,0),(5,0)],cA 173 [1,1,1,1,1,1],mS [(0,LV.cv (CV.ref x0l x0i 0)),(1,LV.int .i64 x1),(4,LV.loc 0 0),(7,LV.int .i64 x7),(8,LV.str x8)] [Ob.cells [LV.int .i64 o0_0,LV.int .i64 o0_1,LV.str o0_2]]⟩
def uZ (x0l x0i:Nat)(x1 x7:Int)(x8:List UInt8)(o0_0 o0_1:Int)(o0_2:List UInt8)(μ:Mu):=(yr x0l x0i x1 x7 x8 o0_0 o0_1 o0_2).seg ρ μ
def nI (x5 o0_0 o0_1:Int)(o0_2:List UInt8)(μ:Mu):St:= .ret (mS [(4,LV.loc 0 0),(5,LV.int .i64 x5)] [Ob.cells [LV.int .i64 o0_0,LV.int .i64 o0_1,LV.str o0_2]]) μ
def tC (pv:CV)(μ:Mu):St:= .panic pv (mS [] []) μ
theorem Jc (x0l x0i x1 x6 x7 x8 x9 o0_0 o0_1 o0_2 μ):(B9 x0l x0i x1 x6 x7 x8 x9 o0_0 o0_1 o0_2).sK ρ μ=
 opt (bv E.P 9 (aZ μ x0l x0i) 0) fun v18=>
 opt (aL v18) fun s19=>
 opt (bZ s19 x1 (IntKind.wrap .i64 (x1+x9))) fun s20=>
 ay (bf (List.length x8 + List.length s20)) (
 opt (bv E.P 9 (aZ μ x0l x0i) 0) fun v21=>
 opt (aL v21) fun s22=>
 opt (bZ s22 (IntKind.wrap .i64 (x1+IntKind.wrap .i64 (x9+(1:Int)))) (List.length s22:Int)) fun s23=>
 callK (ρ.call 195 [LV.str s23, LV.str x6] μ) (fun v24 μ25 =>
 opt (aP v24) fun b28=>
 cond (!b28) (
 some (lT x0l x0i (IntKind.wrap .i64 (x1+IntKind.wrap .i64 (x9+(1:Int)))) x6 x7 (x8++s20) o0_0 o0_1 o0_2 μ25)) (
 ay (bf (List.length (x8 ++ s20) + List.length x6)) (
 some (po x0l x0i (IntKind.wrap .i64 (x1+IntKind.wrap .i64 (x9+(1:Int)))) x6 x7 ((x8++s20)++x6) o0_0 o0_1 o0_2 μ25)))) (pX FR)):=by kernel_rfl
theorem rD (x0l x0i x1 x6 x7 x8 o0_0 o0_1 o0_2 μ):kR ρ iN [.block 1,.seq (cA 173 [1,1,1,1,0,1,0,0,1])] [(0,0),(1,0),(4,0),(7,0),(8,0)] (cA 173 [1,1,1,1,0,1,0,0]) (lT x0l x0i x1 x6 x7 x8 o0_0 o0_1 o0_2 μ)=
 some (pM x0l x0i x1 x7 x8 o0_0 o0_1 o0_2 μ):=by kernel_rfl
theorem AX (x0l x0i x1 x6 x7 x8 o0_0 o0_1 o0_2 μ):kR ρ iN [.block 1,.seq (cA 173 [1,1,1,1,0,1,0,0,1])] [(0,0),(1,0),(4,0),(7,0),(8,0)] (cA 173 [1,1,1,1,0,1,0,0]) (po x0l x0i x1 x6 x7 x8 o0_0 o0_1 o0_2 μ)=
 xJ ρ x0l x0i (IntKind.wrap .i64 (x1+(1:Int))) x6 x7 x8 o0_0 o0_1 o0_2 μ:=by kernel_rfl
theorem zi (x0l x0i x1 x6 x7 x8 o0_0 o0_1 o0_2 μ):(CD x0l x0i x1 x6 x7 x8 o0_0 o0_1 o0_2).rK ρ μ=
 opt (bv E.P 9 (aZ μ x0l x0i) 0) fun v4=>
 opt (aL v4) fun s5=>
 opt (bZ s5 x1 (List.length s5:Int)) fun s6=>
 callK (ρ.call 145 [LV.str s6, LV.str x6] μ) (fun v7 μ8 =>
 opt (aH .i64 v7) fun n11=>
 cond (decide (n11 < (0 : Int))) (
 callK (ρ.call 170 [LV.int .i64 (7 : Int)] μ8) (fun v12 μ13 =>
 opt (aS v12) fun xs16=>
 opt (aO xs16) fun u17=>
 opt (xx ρ x0l x0i x1 x6 x7 x8 n11 o0_0 o0_1 o0_2 μ13) (kR ρ iN [.block 1,.seq (cA 173 [1,1,1,1,0,1,0,0,1])] [(0,0),(1,0),(4,0),(7,0),(8,0)] (cA 173 [1,1,1,1,0,1,0,0]))) (pX md)) (
 opt (xx ρ x0l x0i x1 x6 x7 x8 n11 o0_0 o0_1 o0_2 μ8) (kR ρ iN [.block 1,.seq (cA 173 [1,1,1,1,0,1,0,0,1])] [(0,0),(1,0),(4,0),(7,0),(8,0)] (cA 173 [1,1,1,1,0,1,0,0])))) (pX md):=by kernel_rfl
theorem Hz (x0l x0i x1 x7 x8 o0_0 o0_1 o0_2 μ):(yr x0l x0i x1 x7 x8 o0_0 o0_1 o0_2).sK ρ μ=
 callK (ρ.call 189 [LV.cv (CV.ref x0l x0i 0), LV.int .i64 x7, LV.int .i64 x1] μ) (fun v37 μ38 =>
 opt (aS v37) fun xs41=>
 opt (aO xs41) fun u42=>
 callK (ρ.call 86 [LV.str x8] μ38) (fun v43 μ44 =>
 d8 v43 fun n47 n48 s49=>
 some (nI x1 n47 n48 s49 μ44)) (pX tC)) (pX tC):=by kernel_rfl
theorem zw (x5 o0_0 o0_1 o0_2 μ):kB ρ 173 iN [] (nI x5 o0_0 o0_1 o0_2 μ)=
 some (.ret (LV.ltup [LV.cv (CV.agg [CV.int .i64 o0_0,CV.int .i64 o0_1,CV.str o0_2]),LV.int .i64 x5]) μ):=by kernel_rfl
theorem Bt (x0l x0i x1 x7 x8 o0_0 o0_1 o0_2 μ):kB ρ 173 iN [.block 0,.seq (cA 173 [1,1,1,1,1])] (pM x0l x0i x1 x7 x8 o0_0 o0_1 o0_2 μ)=
 cond (decide ((60 : Int) < (List.length x8 : Int))) (
 callK (ρ.call 170 [LV.int .i64 (8 : Int)] μ) (fun v31 μ32 =>
 opt (aS v31) fun xs35=>
 opt (aO xs35) fun u36=>
 opt (uZ ρ x0l x0i x1 x7 x8 o0_0 o0_1 o0_2 μ32) (kB ρ 173 iN [])) pP) (
 opt (uZ ρ x0l x0i x1 x7 x8 o0_0 o0_1 o0_2 μ) (kB ρ 173 iN [])):=by kernel_rfl
theorem Bu (pv μ):kB ρ 173 iN [.block 0,.seq (cA 173 [1,1,1,1,1])] (md pv μ)=
 ay (below (List.length μ) pv) (some (.panic pv μ)):=by kernel_rfl
theorem Oc (al ai b μ):aG E ρ 173 [LV.cv (CV.ref al ai 0),LV.int .i64 b] μ=
 opt (bv E.P 9 (aZ μ al ai) 0) fun v1=>
 opt (aL v1) fun s2=>
 opt (bZ s2 b (IntKind.wrap .i64 (b+(1:Int)))) fun s3=>
 opt (xJ ρ al ai (IntKind.wrap .i64 (b+(1:Int))) s3 b ([]:List UInt8) (0:Int) (0:Int) ([]:List UInt8) μ) (kB ρ 173 iN [.block 0,.seq (cA 173 [1,1,1,1,1])]):=by kernel_rfl
def Ca (x6 x7 x8 x9:Int)(x10:List UInt8)(o0_0 o0_1:Int)(o0_2:List UInt8):SegD:=⟨gZ,[(4,0),(5,0)],cA 174 [1,1,1,1,1],mS [(4,LV.loc 0 0),(6,LV.int .u8 x6),(7,LV.int .i64 x7),(8,LV.int .u8 x8),(9,LV.int .i64 x9),(10,LV.str x10)] [Ob.cells [LV.int .i64 o0_0,LV.int .i64 o0_1,LV.str o0_2]]⟩
def Fy (x6 x7 x8 x9:Int)(x10:List UInt8)(o0_0 o0_1:Int)(o0_2:List UInt8)(μ:Mu):=(Ca x6 x7 x8 x9 x10 o0_0 o0_1 o0_2).seg ρ μ
def iB (x5 o0_0 o0_1:Int)(o0_2:List UInt8)(μ:Mu):St:= .ret (mS [(4,LV.loc 0 0),(5,LV.int .i64 x5)] [Ob.cells [LV.int .i64 o0_0,LV.int .i64 o0_1,LV.str o0_2]]) μ
def Cb (x6 x7 o0_0 o0_1:Int)(o0_2:List UInt8):SegD:=⟨gZ,[(4,0),(5,0)],cA 174 [1,1,1,1,1,1],mS [(4,LV.loc 0 0),(6,LV.int .u8 x6),(7,LV.int .i64 x7)] [Ob.cells [LV.int .i64 o0_0,LV.int .i64 o0_1,LV.str o0_2]]⟩
def xy (x6 x7 o0_0 o0_1:Int)(o0_2:List UInt8)(μ:Mu):=(Cb x6 x7 o0_0 o0_1 o0_2).seg ρ μ
def j4 (x5 o0_0 o0_1:Int)(o0_2:List UInt8)(μ:Mu):St:= .ret (mS [(4,LV.loc 0 0),(5,LV.int .i64 x5)] [Ob.cells [LV.int .i64 o0_0,LV.int .i64 o0_1,LV.str o0_2]]) μ
def yt (x7:Int)(x13:List UInt8)(o0_0 o0_1:Int)(o0_2:List UInt8):SegD:=⟨gZ,[(4,0),(5,0)],cA 174 [1,1,1,1,1,1,1,1],mS [(4,LV.loc 0 0),(7,LV.int .i64 x7),(13,LV.str x13)] [Ob.cells [LV.int .i64 o0_0,LV.int .i64 o0_1,LV.str o0_2]]⟩
def BS (x7:Int)(x13:List UInt8)(o0_0 o0_1:Int)(o0_2:List UInt8)(μ:Mu):=(yt x7 x13 o0_0 o0_1 o0_2).seg ρ μ
def kU (x5 o0_0 o0_1:Int)(o0_2:List UInt8)(μ:Mu):St:= .ret (mS [(4,LV.loc 0 0),(5,LV.int .i64 x5)] [Ob.cells [LV.int .i64 o0_0,LV.int .i64 o0_1,LV.str o0_2]]) μ
def iR (pv:CV)(μ:Mu):St:= .panic pv (mS [] []) μ
def j5 (pv:CV)(μ:Mu):St:= .panic pv (mS [] []) μ
def gi (pv:CV)(μ:Mu):St:= .panic pv (mS [] []) μ
theorem HA (x7 x13 o0_0 o0_1 o0_2 μ):(yt x7 x13 o0_0 o0_1 o0_2).sK ρ μ=
 callK (ρ.call 52 [] μ) (fun v49 μ50 =>
 opt (cg v49) fun l53=>
 callK (ρ.call 50 [LV.cv (CV.sl l53), LV.str x13] μ50) (fun v54 μ55 =>
 opt (aP v54) fun b58=>
 cond (!b58) (
 callK (ρ.call 170 [LV.int .i64 (7 : Int)] μ55) (fun v59 μ60 =>
 opt (aS v59) fun xs63=>
 opt (aO xs63) fun u64=>
 some (kU x7 (2:Int) (0:Int) x13 μ60)) (pX iR)) (
 some (kU x7 (2:Int) (0:Int) x13 μ55))) (pX iR)) (pX iR):=by kernel_rfl
theorem zx (x5 o0_0 o0_1 o0_2 μ):kS ρ gZ [] [(4,0),(5,0)] (kU x5 o0_0 o0_1 o0_2 μ)=
 some (j4 x5 o0_0 o0_1 o0_2 μ):=by kernel_rfl
theorem zy (pv μ):kS ρ gZ [] [(4,0),(5,0)] (iR pv μ)=
 some (j5 pv μ):=by kernel_rfl
theorem Je (x6 x7 o0_0 o0_1 o0_2 μ):(Cb x6 x7 o0_0 o0_1 o0_2).sK ρ μ=
 opt (bb [CV.int .u8 x6]) fun s40=>
 callK (ρ.call 196 [] μ) (fun v41 μ42 =>
 opt (dw v41) fun c45=>
 opt (rb (LV.cv c45) {fr:=fun _=> .cv .undef,lam:=[Ob.cells [LV.int .i64 o0_0,LV.int .i64 o0_1,LV.str o0_2]],pushed:=false} μ42) fun p46=>
 ay (i6 .string p46.1) (
 optE (fi p46.1 p46.2 (Value.string ⟨⟨s40⟩⟩)) (fun c47 =>
 opt (aL (LV.cv c47)) fun s48=>
 some (j4 x7 (2:Int) (0:Int) s48 μ42)) (
 opt (BS ρ x7 s40 o0_0 o0_1 o0_2 μ42) (kS ρ gZ [] [(4,0),(5,0)])))) (pX j5):=by kernel_rfl
theorem A0 (x5 o0_0 o0_1 o0_2 μ):kS ρ gZ [] [(4,0),(5,0)] (j4 x5 o0_0 o0_1 o0_2 μ)=
 some (iB x5 o0_0 o0_1 o0_2 μ):=by kernel_rfl
theorem A1 (pv μ):kS ρ gZ [] [(4,0),(5,0)] (j5 pv μ)=
 some (gi pv μ):=by kernel_rfl
theorem Jd (x6 x7 x8 x9 x10 o0_0 o0_1 o0_2 μ):(Ca x6 x7 x8 x9 x10 o0_0 o0_1 o0_2).sK ρ μ=
 cond (!decide (x8 = (0 : Int))) (
 callK (ρ.call 52 [] μ) (fun v30 μ31 =>
 opt (cg v30) fun l34=>
 callK (ρ.call 50 [LV.cv (CV.sl l34), LV.str x10] μ31) (fun v35 μ36 =>
 opt (aP v35) fun b39=>
 cond (b39) (
 some (iB x9 (2:Int) (0:Int) x10 μ36)) (
 opt (xy ρ x6 x7 o0_0 o0_1 o0_2 μ36) (kS ρ gZ [] [(4,0),(5,0)]))) (pX gi)) (pX gi)) (
 opt (xy ρ x6 x7 o0_0 o0_1 o0_2 μ) (kS ρ gZ [] [(4,0),(5,0)])):=by kernel_rfl
theorem AY (x5 o0_0 o0_1 o0_2 μ):kB ρ 174 gZ [] (iB x5 o0_0 o0_1 o0_2 μ)=
 some (.ret (LV.ltup [LV.cv (CV.agg [CV.int .i64 o0_0,CV.int .i64 o0_1,CV.str o0_2]),LV.int .i64 x5]) μ):=by kernel_rfl
theorem AZ (pv μ):kB ρ 174 gZ [] (gi pv μ)=
 ay (below (List.length μ) pv) (some (.panic pv μ)):=by kernel_rfl
theorem Od (al ai b μ):aG E ρ 174 [LV.cv (CV.ref al ai 0),LV.int .i64 b] μ=
 callK (ρ.call 168 [LV.cv (CV.ref al ai 0), LV.int .i64 b] μ) (fun v1 μ2 =>
 opt (aS v1) fun xs5=>
 opt (az xs5) fun q6=>
 opt (aH .u8 q6.1) fun n7=>
 opt (az q6.2) fun q8=>
 opt (aH .i64 q8.1) fun n9=>
 opt (aO q8.2) fun u10=>
 callK (ρ.call 168 [LV.cv (CV.ref al ai 0), LV.int .i64 n9] μ2) (fun v11 μ12 =>
 opt (aS v11) fun xs15=>
 opt (az xs15) fun q16=>
 opt (aH .u8 q16.1) fun n17=>
 opt (az q16.2) fun q18=>
 opt (aH .i64 q18.1) fun n19=>
 opt (aO q18.2) fun u20=>
 opt (bb [CV.int .u8 n7,CV.int .u8 n17]) fun s21=>
 callK (ρ.call 196 [] μ12) (fun v22 μ23 =>
 opt (dw v22) fun c26=>
 opt (rb (LV.cv c26) {fr:=fun _=> .cv .undef,lam:=[Ob.cells [LV.int .i64 (0:Int),LV.int .i64 (0:Int),LV.str ([]:List UInt8)]],pushed:=false} μ23) fun p27=>
 ay (i6 .string p27.1) (
 optE (fi p27.1 p27.2 (Value.string ⟨⟨s21⟩⟩)) (fun c28 =>
 opt (aL (LV.cv c28)) fun s29=>
 some (.ret (LV.ltup [LV.cv (CV.agg [CV.int .i64 (2:Int),CV.int .i64 (0:Int),CV.str s29]),LV.int .i64 n19]) μ23)) (
 opt (Fy ρ n7 n9 n17 n19 s21 (0:Int) (0:Int) ([]:List UInt8) μ23) (kB ρ 174 gZ [])))) pP) pP) pP:=by kernel_rfl
def CE (x0l x0i:Nat)(x2 x6:Int):SegD:=⟨Dz,[],cA 189 [1,0,0],mS [(0,LV.cv (CV.ref x0l x0i 0)),(2,LV.int .i64 x2),(6,LV.int .i64 x6)] []⟩
def xK (x0l x0i:Nat)(x2 x6:Int)(μ:Mu):=(CE x0l x0i x2 x6).loop ρ μ
def pN (μ:Mu):St:= .exit 0 (mS [] []) μ
theorem zj (x0l x0i x2 x6 μ):(CE x0l x0i x2 x6).rK ρ μ=
 cond (decide (x6 < x2)) (
 opt (kq E.P 38 (aZ μ x0l x0i) 3) fun r1=>
 opt (fg r1.1) fun l2=>
 ay (dQ 1 l2 [CV.int .i64 x6]) (
 ay (bO (x0l + 1) (l2 ++ [CV.int .i64 x6])) (
 opt (bE E.P 38 (aZ (bN μ x0l x0i r1.2) x0l x0i) 3 (LV.osl (l2++[CV.int .i64 x6]))) fun o3=>
 xK ρ x0l x0i x2 (IntKind.wrap .i64 (x6+(1:Int))) (bN (bN μ x0l x0i r1.2) x0l x0i o3)))) (
 some (pN μ)):=by kernel_rfl
theorem Bv (μ):kB ρ 189 Dz [.block 0] (pN μ)=
 some (.ret (LV.ltup []) μ):=by kernel_rfl
theorem Oe (al ai b c μ):aG E ρ 189 [LV.cv (CV.ref al ai 0),LV.int .i64 b,LV.int .i64 c] μ=
 opt (xK ρ al ai c b μ) (kB ρ 189 Dz [.block 0]):=by kernel_rfl
def CF (x0l x0i:Nat)(x1:Int):SegD:=⟨DA,[(1,0)],cA 190 [1,0,0,0],mS [(0,LV.cv (CV.ref x0l x0i 0)),(1,LV.int .i64 x1)] []⟩
def xL (x0l x0i:Nat)(x1:Int)(μ:Mu):=(CF x0l x0i x1).loop ρ μ
def kb (x1:Int)(μ:Mu):St:= .exit 0 (mS [(1,LV.int .i64 x1)] []) μ
theorem zk (x0l x0i x1 μ):(CF x0l x0i x1).rK ρ μ=
 opt (bv E.P 4 (aZ μ x0l x0i) 1) fun v1=>
 opt (aP v1) fun b2=>
 cond (b2) (
 opt (bv E.P 9 (aZ μ x0l x0i) 0) fun v3=>
 opt (aL v3) fun s4=>
 cond (decide (x1 < (List.length s4 : Int))) (
 opt (bv E.P 9 (aZ μ x0l x0i) 0) fun v5=>
 opt (aL v5) fun s6=>
 opt (a7 s6 x1) fun y7=>
 cond (decide ((y7.toNat : Int) = (32 : Int))) (
 xL ρ x0l x0i (IntKind.wrap .i64 (x1+(1:Int))) μ) (
 some (kb x1 μ))) (
 some (kb x1 μ))) (
 some (kb x1 μ)):=by kernel_rfl
theorem Bw (x1 μ):kB ρ 190 DA [.block 0,.seq (cA 190 [1,1])] (kb x1 μ)=
 some (.ret (LV.int .i64 x1) μ):=by kernel_rfl
theorem Of (al ai b μ):aG E ρ 190 [LV.cv (CV.ref al ai 0),LV.int .i64 b] μ=
 opt (xL ρ al ai b μ) (kB ρ 190 DA [.block 0,.seq (cA 190 [1,1])]):=by kernel_rfl
def Cc (x0l x0i:Nat)(x4 x9:Int):SegD:=⟨kF,[(4,0),(5,0),(6,0),(7,0)],cA 191 [1,1,1,1],mS [(0,LV.cv (CV.ref x0l x0i 0)),(4,LV.int .u8 x4),(9,LV.int .i64 x9)] []⟩
def xz (x0l x0i:Nat)(x4 x9:Int)(μ:Mu):=(Cc x0l x0i x4 x9).seg ρ μ
def yu (x0l x0i:Nat)(x4 x9:Int)(x10:List UInt8):SegD:=⟨kF,[(4,0),(5,0),(6,0),(7,0)],cA 191 [1,1,1,1,1,1],mS [(0,LV.cv (CV.ref x0l x0i 0)),(4,LV.int .u8 x4),(9,LV.int .i64 x9),(10,LV.str x10)] []⟩
def lf (x0l x0i:Nat)(x4 x9:Int)(x10:List UInt8)(μ:Mu):=(yu x0l x0i x4 x9 x10).seg ρ μ
def nJ (x4:Int)(x5:List UInt8)(x6:Int)(x7:Bool)(μ:Mu):St:= .ret (mS [(4,LV.int .u8 x4),(5,LV.str x5),(6,LV.int .i64 x6),(7,LV.bool x7)] []) μ
def DG (pv:CV)(μ:Mu):St:= .panic pv (mS [] []) μ
def pp (x4:Int)(x5:List UInt8)(x6:Int)(x7:Bool)(μ:Mu):St:= .ret (mS [(4,LV.int .u8 x4),(5,LV.str x5),(6,LV.int .i64 x6),(7,LV.bool x7)] []) μ
def FS (pv:CV)(μ:Mu):St:= .panic pv (mS [] []) μ
theorem HB (x0l x0i x4 x9 x10 μ):(yu x0l x0i x4 x9 x10).sK ρ μ=
 callK (ρ.call 169 [LV.cv (CV.ref x0l x0i 0), LV.int .i64 x9, LV.cv (CV.clo 132 [])] μ) (fun v21 μ22 =>
 opt (aS v21) fun xs25=>
 opt (az xs25) fun q26=>
 opt (aL q26.1) fun s27=>
 opt (az q26.2) fun q28=>
 opt (aH .i64 q28.1) fun n29=>
 opt (aO q28.2) fun u30=>
 ay (bf (List.length x10 + List.length s27)) (
 some (nJ x4 (x10++s27) n29 (!decide (s27=([]:List UInt8))) μ22))) (pX DG):=by kernel_rfl
theorem lF (x4 x5 x6 x7 μ):kS ρ kF [] [(4,0),(5,0),(6,0),(7,0)] (nJ x4 x5 x6 x7 μ)=
 some (pp x4 x5 x6 x7 μ):=by kernel_rfl
theorem Jf (x0l x0i x4 x9 μ):(Cc x0l x0i x4 x9).sK ρ μ=
 callK (ρ.call 168 [LV.cv (CV.ref x0l x0i 0), LV.int .i64 x9] μ) (fun v11 μ12 =>
 opt (aS v11) fun xs15=>
 opt (az xs15) fun q16=>
 opt (aH .u8 q16.1) fun n17=>
 opt (az q16.2) fun q18=>
 opt (aH .i64 q18.1) fun n19=>
 opt (aO q18.2) fun u20=>
 cond (decide (n17 = (43 : Int))) (
 cond (decide (n17 = (45 : Int))) (
 opt (lf ρ x0l x0i x4 n19 ([45]:List UInt8) μ12) (kS ρ kF [] [(4,0),(5,0),(6,0),(7,0)])) (
 opt (lf ρ x0l x0i x4 n19 ([]:List UInt8) μ12) (kS ρ kF [] [(4,0),(5,0),(6,0),(7,0)]))) (
 cond (decide (n17 = (45 : Int))) (
 cond (decide (n17 = (45 : Int))) (
 opt (lf ρ x0l x0i x4 n19 ([45]:List UInt8) μ12) (kS ρ kF [] [(4,0),(5,0),(6,0),(7,0)])) (
 opt (lf ρ x0l x0i x4 n19 ([]:List UInt8) μ12) (kS ρ kF [] [(4,0),(5,0),(6,0),(7,0)]))) (
 opt (lf ρ x0l x0i x4 x9 ([]:List UInt8) μ12) (kS ρ kF [] [(4,0),(5,0),(6,0),(7,0)])))) (pX FS):=by kernel_rfl
theorem rE (x4 x5 x6 x7 μ):kB ρ 191 kF [] (pp x4 x5 x6 x7 μ)=
 some (.ret (LV.ltup [LV.int .u8 x4,LV.str x5,LV.int .i64 x6,LV.bool x7]) μ):=by kernel_rfl
theorem Og (al ai b μ):aG E ρ 191 [LV.cv (CV.ref al ai 0),LV.int .i64 b] μ=
 callK (ρ.call 168 [LV.cv (CV.ref al ai 0), LV.int .i64 b] μ) (fun v1 μ2 =>
 opt (aS v1) fun xs5=>
 opt (az xs5) fun q6=>
 opt (aH .u8 q6.1) fun n7=>
 opt (az q6.2) fun q8=>
 opt (aH .i64 q8.1) fun n9=>
 opt (aO q8.2) fun u10=>
 cond (!decide (IntKind.wrap .u8 ((BitVec.ofInt (IntKind.bits .u8) n7 &&& ~~~BitVec.ofInt (IntKind.bits .u8) (32 : Int)).toNat : Int) = (69 : Int))) (
 cond (!decide (IntKind.wrap .u8 ((BitVec.ofInt (IntKind.bits .u8) n7 &&& ~~~BitVec.ofInt (IntKind.bits .u8) (32 : Int)).toNat : Int) = (68 : Int))) (
 some (.ret (LV.ltup [LV.int .u8 (0:Int),LV.str ([]:List UInt8),LV.int .i64 b,LV.bool false]) μ2)) (
 opt (xz ρ al ai (IntKind.wrap .u8 ((BitVec.ofInt (IntKind.bits .u8) n7 &&& ~~~BitVec.ofInt (IntKind.bits .u8) (32:Int)).toNat:Int)) n9 μ2) (kB ρ 191 kF []))) (
 opt (xz ρ al ai (IntKind.wrap .u8 ((BitVec.ofInt (IntKind.bits .u8) n7 &&& ~~~BitVec.ofInt (IntKind.bits .u8) (32:Int)).toNat:Int)) n9 μ2) (kB ρ 191 kF []))) pP:=by kernel_rfl
theorem Oh (a μ):aG E ρ 192 [LV.str a] μ=
 callK (ρ.call 45 [LV.str a] μ) (fun v1 μ2 =>
 opt (aS v1) fun xs5=>
 opt (az xs5) fun q6=>
 opt (aH .i64 q6.1) fun n7=>
 opt (az q6.2) fun q8=>
 opt (dw q8.1) fun c9=>
 opt (aO q8.2) fun u10=>
 cond (decide ((10 : Int) < (List.length a : Int))) (
 callK (ρ.call 170 [LV.int .i64 (28 : Int)] μ2) (fun v11 μ12 =>
 opt (aS v11) fun xs15=>
 opt (aO xs15) fun u16=>
 callK (ρ.call 66 [LV.int .i64 n7] μ12) (fun v17 μ18 =>
 opt (aL v17) fun s21=>
 some (.ret (LV.cv (CV.agg [CV.int .i64 (1:Int),CV.int .i64 (0:Int),CV.str s21])) μ18)) pP) pP) (
 opt (xj (LV.cv c9)) fun b22=>
 cond (!b22) (
 callK (ρ.call 170 [LV.int .i64 (28 : Int)] μ2) (fun v23 μ24 =>
 opt (aS v23) fun xs27=>
 opt (aO xs27) fun u28=>
 callK (ρ.call 66 [LV.int .i64 n7] μ24) (fun v29 μ30 =>
 opt (aL v29) fun s33=>
 some (.ret (LV.cv (CV.agg [CV.int .i64 (1:Int),CV.int .i64 (0:Int),CV.str s33])) μ30)) pP) pP) (
 cond (decide ((2147483647 : Int) < n7)) (
 callK (ρ.call 170 [LV.int .i64 (28 : Int)] μ2) (fun v34 μ35 =>
 opt (aS v34) fun xs38=>
 opt (aO xs38) fun u39=>
 callK (ρ.call 66 [LV.int .i64 n7] μ35) (fun v40 μ41 =>
 opt (aL v40) fun s44=>
 some (.ret (LV.cv (CV.agg [CV.int .i64 (1:Int),CV.int .i64 (0:Int),CV.str s44])) μ41)) pP) pP) (
 callK (ρ.call 66 [LV.int .i64 n7] μ2) (fun v45 μ46 =>
 opt (aL v45) fun s49=>
 some (.ret (LV.cv (CV.agg [CV.int .i64 (1:Int),CV.int .i64 (0:Int),CV.str s49])) μ46)) pP)))) pP:=by kernel_rfl
theorem Oi (a b μ):aG E ρ 193 [LV.str a,LV.str b] μ=
 callK (ρ.call 62 [LV.str a, LV.str ([48] : List UInt8)] μ) (fun v1 μ2 =>
 opt (aL v1) fun s5=>
 callK (ρ.call 63 [LV.str b, LV.str ([48] : List UInt8)] μ2) (fun v6 μ7 =>
 opt (aL v6) fun s10=>
 some (.ret (LV.int .i64 (IntKind.wrap .i64 ((List.length s5:Int)+(List.length s10:Int)))) μ7)) pP) pP:=by kernel_rfl
theorem Oj (μ):aG E ρ 196 [] μ=
 some (.ret (LV.cv (CV.mview [Value.string ⟨⟨([60,61]:List UInt8)⟩⟩,Value.string ⟨⟨([62,61]:List UInt8)⟩⟩,Value.string ⟨⟨([61,61]:List UInt8)⟩⟩,Value.string ⟨⟨([47,61]:List UInt8)⟩⟩,Value.string ⟨⟨([60]:List UInt8)⟩⟩,Value.string ⟨⟨([62]:List UInt8)⟩⟩] [CV.str ([46,76,69,46]:List UInt8),CV.str ([46,71,69,46]:List UInt8),CV.str ([46,69,81,46]:List UInt8),CV.str ([46,78,69,46]:List UInt8),CV.str ([46,76,84,46]:List UInt8),CV.str ([46,71,84,46]:List UInt8)])) μ):=by kernel_rfl
end
end Go.Abs
set_option linter.unusedVariables false
set_option linter.unusedSimpArgs false
set_option maxRecDepth 100000
namespace Go.Abs
open Go Go.Proofs
def Sc (μ:Mu)(l i:Nat)(s:List UInt8)(fx:Bool)(r:List LV):Prop:=aZ μ l i= .cells (LV.str s::LV.bool fx::r)
def aK:List UInt8→Nat
 |[]=>0
 |c::r=>if c=32 then aK r+1 else 0
def skipN (fx:Bool)(s:List UInt8)(n:Nat):Nat:=if fx then n+aK (s.drop n)else n
section
variable {μ:Mu}{l i:Nat}{s:List UInt8}{fx:Bool}{r:List LV}
theorem Lw (h:Sc μ l i s fx r)(hs:s.length≤1000000): ∀(k n:Nat),n+k=s.length→xL (ev E) l i (n:Int) μ=some (kb (skipN fx s n:Nat) μ):=by
 intro k
 induction k with
 |zero=>
  intro n hk
  refine aV ?_
  rw[zk,h]
  simp only[tf,oJ,aa,ae,eQ,cT,ah]
  have:List.drop n s=[]:=List.drop_eq_nil_of_le (by omega)
  have h1:decide ((n:Int)<(s.length:Int))=false:=by simp;omega
  rw[h1]
  cases fx<;>simp[skipN,aK,this]
 |succ k ih=>
  intro n hk
  refine aV ?_
  rw[zk,h]
  simp only[tf,oJ,aa,ae,eQ,cT,ah]
  have h1:decide ((n:Int)<(s.length:Int))=true:=by simp;omega
  have hn:n<s.length:=by omega
  rw[h1,gC,List.getElem?_eq_getElem hn,aa]
  have hd:List.drop n s=s[n]::List.drop (n+1) s:=List.drop_eq_getElem_cons hn
  have e:IntKind.wrap .i64 ((n:Int)+1)=((n+1:Nat):Int):=by rw[ce (by omega) (by omega)];omega
  rw[e,ih (n+1) (by omega)]
  cases fx
  ·simp[skipN]
  ·simp only[cond_true,skipN,if_true,hd,aK]
   by_cases hc:s[n]=32
   ·have:decide (((s[n]).toNat:Int)=32)=true:=by rw[hc];decide
    rw[this]
    simp only[cond_true,hc,if_true]
    congr 3
    omega
   ·have:decide (((s[n]).toNat:Int)=32)=false:=by
     simp only[decide_eq_false_iff_not]
     intro h2
     apply hc
     apply UInt8.toNat.inj
     have:(s[n]).toNat=32:=by omega
     rw[this];rfl
    rw[this]
    simp[hc]
theorem Mt (h:Sc μ l i s fx r)(hs:s.length≤1000000){n:Nat}(hn:n≤s.length):(ev E).call 190 [LV.cv (CV.ref l i 0),LV.int .i64 (n:Int)] μ=some (.ret (LV.int .i64 (skipN fx s n:Nat)) μ):=by
 refine aN ?_
 rw[Of,Lw h hs (s.length-n) n (by omega),aa,Bw]
theorem iF: ∀(l:List UInt8),aK l≤l.length
 |[]=>Nat.le_refl _
 |c::r=>by
  unfold aK
  have:=iF r
  split<;>simp<;>omega
theorem ti {n:Nat}(hn:n≤s.length):skipN fx s n≤s.length:=by
 unfold skipN
 have:=iF (s.drop n)
 rw[List.length_drop]at this
 split<;>omega
theorem zV {n:Nat}:n≤skipN fx s n:=by
 unfold skipN
 split<;>omega
def atC (fx:Bool)(s:List UInt8)(n:Nat):UInt8:=(s[skipN fx s n]?).getD 0
def atE (fx:Bool)(s:List UInt8)(n:Nat):Nat:=if skipN fx s n<s.length then skipN fx s n+1 else skipN fx s n
theorem gt (h:Sc μ l i s fx r)(hs:s.length≤1000000){n:Nat}(hn:n≤s.length):
  (ev E).call 168 [LV.cv (CV.ref l i 0),LV.int .i64 (n:Int)] μ=some (.ret (.ltup [LV.int .u8 ((atC fx s n).toNat:Int),LV.int .i64 (atE fx s n:Nat)]) μ):=by
 refine aN ?_
 rw[N6,Mt h hs hn,ad,am,aa,h,eQ,cT,aa,ah,aa]
 have hle:=ti (fx:=fx) hn
 by_cases hlt:skipN fx s n<s.length
 ·have h1:decide ((s.length:Int)≤(skipN fx s n:Int))=false:=by simp;omega
  rw[h1,cond_false]
  have h2:Fv (ev E) l i (skipN fx s n:Nat) μ=some (pm ((atC fx s n).toNat:Int) (atE fx s n:Nat) μ):=by
   refine aU ?_
   rw[I8,h,eQ,cT,aa,ah,aa,gC,List.getElem?_eq_getElem hlt,aa]
   simp only[atC,atE,hlt,if_true,List.getElem?_eq_getElem,Option.getD_some]
   rw[ce (by omega) (by omega)]
   rfl
  rw[h2,aa,AS]
 ·have h1:decide ((s.length:Int)≤(skipN fx s n:Int))=true:=by simp;omega
  rw[h1,cond_true]
  have:s[skipN fx s n]? =none:=List.getElem?_eq_none (by omega)
  simp only[atC,atE,hlt,if_false,this,Option.getD_none]
  rfl
def cD (fx:Bool)(p:UInt8→Bool):List UInt8→Nat→List UInt8×Nat
 |[],_=>([],0)
 |c::r,k=>if fx&&c == 32 then cD fx p r (k+1)else if c != 0&&p c then(c::(cD fx p r 0).1,k+1+(cD fx p r 0).2)else([],0)
def bk (fx:Bool)(p:UInt8→Bool)(s:List UInt8)(n:Nat):List UInt8:=(cD fx p (s.drop n) 0).1
def runE (fx:Bool)(p:UInt8→Bool)(s:List UInt8)(n:Nat):Nat:=n+(cD fx p (s.drop n) 0).2
theorem rY {p:UInt8→Bool}: ∀(l:List UInt8) (k:Nat),cD true p l k=cD true p (l.drop (aK l)) (k+aK l)
 |[],k=>rfl
 |c::r,k=>by
  by_cases hc:c=32
  ·have e1:cD true p (c::r) k=cD true p r (k+1):=by simp[cD,hc]
   have e2:aK (c::r)=aK r+1:=by simp[aK,hc]
   rw[e1,e2,rY r (k+1)]
   simp only[List.drop_succ_cons]
   congr 1
   omega
  ·have e2:aK (c::r)=0:=by simp[aK,hc]
   rw[e2];rfl
theorem jO: ∀(l:List UInt8) (c:UInt8) (r:List UInt8),l.drop (aK l)=c::r→c≠32
 |[],c,r,h=>by simp[aK]at h
 |d::t,c,r,h=>by
  by_cases hd:d=32
  ·have e2:aK (d::t)=aK t+1:=by simp[aK,hd]
   rw[e2,List.drop_succ_cons]at h
   exact jO t c r h
  ·have e2:aK (d::t)=0:=by simp[aK,hd]
   rw[e2]at h
   simp only[List.drop_zero,List.cons.injEq]at h
   rw[←h.1];exact hd
theorem zP {p:UInt8→Bool}{n:Nat}:(bk fx p s n,runE fx p s n)=if atC fx s n != 0&&p (atC fx s n)then(atC fx s n::bk fx p s (atE fx s n),runE fx p s (atE fx s n))else([],n):=by
 have key: ∀m k,skipN fx s n=m→m=n+k→cD fx p (s.drop n) 0=cD fx p (s.drop m) k→(∀c t,s.drop m=c::t→(fx&&c == 32)=false)→
   (bk fx p s n,runE fx p s n)=if atC fx s n != 0&&p (atC fx s n)then(atC fx s n::bk fx p s (atE fx s n),runE fx p s (atE fx s n))else([],n):=by
  intro m k hm hk hrun hc
  simp only[bk,runE,atC,atE,hm]
  rw[hrun]
  by_cases hlt:m<s.length
  ·have hd:s.drop m=s[m]::s.drop (m+1):=List.drop_eq_getElem_cons hlt
   have hc':=hc _ _ hd
   rw[hd]
   simp only[cD,hc',Bool.false_eq_true,if_false,List.getElem?_eq_getElem hlt,Option.getD_some,hlt,if_true]
   split
   ·simp only[Prod.mk.injEq,true_and];omega
   ·rfl
  ·have hd:s.drop m=[]:=List.drop_eq_nil_of_le (by omega)
   rw[hd]
   simp[cD,List.getElem?_eq_none (by omega:s.length≤m)]
 cases fx with
 |false=>exact key n 0 rfl rfl rfl fun c t _=>rfl
 |true=>
  refine key (n+aK (s.drop n)) (aK (s.drop n)) (by simp[skipN]) rfl ?_ fun c t h=> ?_
  ·rw[rY,List.drop_drop,Nat.zero_add]
  ·have:=jO (s.drop n) c t (by rw[List.drop_drop];exact h)
   simp[this]
theorem gB {p:UInt8→Bool}{n:Nat}(h:(atC fx s n != 0&&p (atC fx s n))=true):bk fx p s n=atC fx s n::bk fx p s (atE fx s n)∧runE fx p s n=runE fx p s (atE fx s n):=by
 have:=zP (fx:=fx) (s:=s) (p:=p) (n:=n)
 rw[h,if_pos rfl,Prod.mk.injEq]at this
 exact this
theorem fM {p:UInt8→Bool}{n:Nat}(h:(atC fx s n != 0&&p (atC fx s n))=false):bk fx p s n=[]∧runE fx p s n=n:=by
 have:=zP (fx:=fx) (s:=s) (p:=p) (n:=n)
 rw[h,if_neg (by simp),Prod.mk.injEq]at this
 exact this
theorem tH {n:Nat}(h:atC fx s n≠0):n<atE fx s n∧atE fx s n≤s.length:=by
 have h1:=zV (fx:=fx) (s:=s) (n:=n)
 by_cases hlt:skipN fx s n<s.length
 ·simp only[atE,hlt,if_true];omega
 ·exfalso
  apply h
  simp only[atC,List.getElem?_eq_none (by omega:s.length≤skipN fx s n),Option.getD_none]
theorem fa {n:Nat}(hn:n≤s.length):atE fx s n≤s.length:=by
 have:=ti (fx:=fx) hn
 unfold atE
 split<;>omega
theorem mL {c:UInt8}:decide ((c.toNat:Int)=0)= !(c != 0):=by
 by_cases h:c=0
 ·subst h;rfl
 ·have:c.toNat≠0:=fun h2=>h (UInt8.toNat.inj h2)
  have h1:(c != 0)=true:=by simpa using h
  rw[h1]
  simp only[Bool.not_true,decide_eq_false_iff_not]
  omega
theorem Lt (h:Sc μ l i s fx r)(hs:s.length≤1000000){f:FuncId}{p:UInt8→Bool}(hp: ∀c:UInt8,(ev E).call f [LV.int .u8 (c.toNat:Int)] μ=some (.ret (LV.bool (p c)) μ)):
  ∀(k n:Nat) (acc:List UInt8),s.length-n≤k→n≤s.length→acc.length+(s.length-n)≤1000000→xI (ev E) l i (n:Int) f (bd acc) μ=some (mc (acc++bk fx p s n) (runE fx p s n:Nat) μ):=by
 intro k
 induction k with
 |zero=>
  intro n acc hk hn ha
  refine aV ?_
  rw[zh,gt h hs hn]
  simp only[ad,ao,aa,ak,am,aj]
  have h0:atC fx s n=0:=by
   by_cases h0:atC fx s n=0
   ·exact h0
   ·have:=tH h0;omega
  obtain⟨h1,h2⟩:=fM (fx:=fx) (s:=s) (p:=p) (n:=n) (by rw[h0];rfl)
  rw[h0,h1,h2]
  simp only[mL,cu,aa,List.append_nil]
  rfl
 |succ k ih=>
  intro n acc hk hn ha
  refine aV ?_
  rw[zh,gt h hs hn]
  simp only[ad,ao,aa,ak,am,aj,mL]
  by_cases h0:atC fx s n=0
  ·obtain⟨h1,h2⟩:=fM (fx:=fx) (s:=s) (p:=p) (n:=n) (by rw[h0];rfl)
   rw[h0,h1,h2]
   simp only[cu,aa,List.append_nil]
   rfl
  ·have h3:(atC fx s n != 0)=true:=by simp[h0]
   rw[h3,Bool.not_true,cond_false,hp,ad,ae,aa]
   cases hpc:p (atC fx s n)with
   |false=>
    obtain⟨h1,h2⟩:=fM (fx:=fx) (s:=s) (p:=p) (n:=n) (by rw[hpc];simp)
    rw[h1,h2]
    simp only[Bool.not_false,cond_true,cu,aa,List.append_nil]
   |true=>
    obtain⟨h1,h2⟩:=gB (fx:=fx) (s:=s) (p:=p) (n:=n) (by rw[hpc,h3];rfl)
    obtain⟨h4,h5⟩:=tH h0
    have h6:Fw (ev E) l i f (bd acc) ((atC fx s n).toNat:Int) (atE fx s n:Nat) μ=some (pn l i (atE fx s n:Nat) f (bd (acc++[atC fx s n])) μ):=by
     refine aU ?_
     have e:[CV.int .u8 ((atC fx s n).toNat:Int)]=bd [atC fx s n]:=rfl
     rw[I9,e,mC (by simp;omega),aA,mI]
    simp only[Bool.not_true,cond_false,h6,aa,AT]
    rw[ih (atE fx s n) (acc++[atC fx s n]) (by omega) h5 (by simp;omega),h1,h2]
    simp
theorem nd (h:Sc μ l i s fx r)(hs:s.length≤1000000){f:FuncId}{p:UInt8→Bool}(hp: ∀c:UInt8,(ev E).call f [LV.int .u8 (c.toNat:Int)] μ=some (.ret (LV.bool (p c)) μ)){n:Nat}(hn:n≤s.length):
  (ev E).call 169 [LV.cv (CV.ref l i 0),LV.int .i64 (n:Int),LV.cv (CV.clo f [])] μ=some (.ret (.ltup [LV.str (bk fx p s n),LV.int .i64 (runE fx p s n:Nat)]) μ):=by
 refine aN ?_
 have:=Lt h hs hp (s.length-n) n [] (Nat.le_refl _) hn (by simp;omega)
 have e:bd []=[]:=rfl
 rw[e,List.nil_append]at this
 rw[N7,this,aa,Bs]
end
end Go.Abs
namespace Go.Abs
def bo (c:UInt8):Bool:=(decide (97≤c.toNat)&&decide (c.toNat≤122))||(decide (65≤c.toNat)&&decide (c.toNat≤90))
def aw (c:UInt8):Bool:=decide (48≤c.toNat)&&decide (c.toNat≤57)
def bD (c:UInt8):Bool:=bo c||aw c||decide (c.toNat=95)
end Go.Abs
set_option linter.unusedVariables false
set_option linter.unusedSimpArgs false
set_option maxRecDepth 100000
namespace Go.Abs
open Go Go.Proofs
section
variable {μ:Mu}
theorem dI (a b:Nat):decide ((a:Int)≤(b:Int))=decide (a≤b):=by simp
theorem D7 {c:UInt8}:(ev E).call 90 [LV.int .u8 (c.toNat:Int)] μ=some (.ret (LV.bool (bo c)) μ):=by
 refine aN ?_
 rw[Ph]
 have e1:decide ((97:Int)≤(c.toNat:Int))=decide (97≤c.toNat):=dI 97 _
 have e2:decide ((c.toNat:Int)≤122)=decide (c.toNat≤122):=dI _ 122
 have e3:decide ((65:Int)≤(c.toNat:Int))=decide (65≤c.toNat):=dI 65 _
 have e4:decide ((c.toNat:Int)≤90)=decide (c.toNat≤90):=dI _ 90
 rw[e1,e2,e3,e4]
 unfold bo
 cases decide (97≤c.toNat)<;>cases decide (c.toNat≤122)<;>cases decide (65≤c.toNat)<;>rfl
theorem km {c:UInt8}:(ev E).call 132 [LV.int .u8 (c.toNat:Int)] μ=some (.ret (LV.bool (aw c)) μ):=by
 refine aN ?_
 rw[NZ]
 have e1:decide ((48:Int)≤(c.toNat:Int))=decide (48≤c.toNat):=dI 48 _
 have e2:decide ((c.toNat:Int)≤57)=decide (c.toNat≤57):=dI _ 57
 rw[e1,e2]
 unfold aw
 cases decide (48≤c.toNat)<;>rfl
theorem NR {c:UInt8}:(ev E).call 93 [LV.int .u8 (c.toNat:Int)] μ=some (.ret (LV.bool (bD c)) μ):=by
 refine aN ?_
 rw[Pi,D7]
 simp only[ad,ao,aa,ak,am,ah,ae,aj,aA,cond_true,cond_false,Bool.not_true,Bool.not_false,au,ar,aq]
 unfold bD
 cases bo c
 ·simp only[ad,ao,aa,ak,am,ah,ae,aj,aA,cond_true,cond_false,Bool.not_true,Bool.not_false,au,ar,aq,km]
  cases aw c
  ·simp only[ad,ao,aa,ak,am,ah,ae,aj,aA,cond_true,cond_false,Bool.not_true,Bool.not_false,au,ar,aq,Bool.false_or]
   have:decide ((c.toNat:Int)=95)=decide (c.toNat=95):=by simp;omega
   rw[this]
  ·rfl
 ·rfl
def oq (x:List UInt8):List (List UInt8)→Nat→Int
 |[],_=> -1
 |a::r,j=>if x=a then(j:Int)else oq x r (j+1)
theorem sR (x:List UInt8): ∀(l:List (List UInt8)) (j:Nat),decide (0≤oq x l j)=l.contains x
 |[],j=>rfl
 |a::r,j=>by
  unfold oq
  by_cases h:x=a
  ·simp[h]
  ·have h1:(x == a)=false:=by simp[h]
   rw[if_neg h,sR x r (j+1),List.contains_cons,h1,Bool.false_or]
noncomputable def DV (n:Int)(μ:Mu):St:=if n= -1 then sN μ else sM n μ
theorem MV {l:List (List UInt8)}{x:List UInt8}(hl:l.length≤1000000): ∀(k j:Nat),j+k=l.length→
  DF (ev E) (bj l) x (l.length:Int) (j:Int) μ=some (DV (oq x (l.drop j) j) μ):=by
 intro k
 induction k with
 |zero=>
  intro j hj
  refine aV ?_
  rw[Db]
  have:List.drop j l=[]:=List.drop_eq_nil_of_le (by omega)
  have h1:decide ((j:Int)<(l.length:Int))=false:=by simp;omega
  rw[h1,this]
  rfl
 |succ k ih=>
  intro j hj
  refine aV ?_
  rw[Db]
  have hlt:j<l.length:=by omega
  have h1:decide ((j:Int)<(l.length:Int))=true:=by simp;omega
  have hd:List.drop j l=l[j]::List.drop (j+1) l:=List.drop_eq_getElem_cons hlt
  have hg:(bj l)[j]? =some (CV.str l[j]):=by simp[bj,hlt]
  have e:IntKind.wrap .i64 ((j:Int)+1)=((j+1:Nat):Int):=by rw[ce (by omega) (by omega)];omega
  rw[h1,c6,hg,hd,e]
  simp only[ad,ao,aa,ak,am,ah,ae,aj,aA,cond_true,cond_false,Bool.not_true,Bool.not_false,au,ar,aq,gn,oq]
  by_cases h:x=l[j]
  ·rw[if_pos h]
   have:decide (x=l[j])=true:=by simp[h]
   rw[this,cond_true,DV,if_neg (by omega)]
  ·rw[if_neg h]
   have:decide (x=l[j])=false:=by simp[h]
   rw[this,cond_false,ih (j+1) (by omega)]
theorem Ic {l:List (List UInt8)}{x:List UInt8}(hl:l.length≤1000000):aG E (ev E) 94 [LV.cv (CV.sl (bj l)),LV.str x] μ=some (.ret (LV.int .i64 (oq x l 0)) μ):=by
  have e:(bj l).length=l.length:=by simp[bj]
  have:=MV (μ:=μ) (l:=l) (x:=x) hl l.length 0 (by omega)
  rw[List.drop_zero]at this
  rw[Pj,e]
  have e0:((0:Nat):Int)=(0:Int):=rfl
  rw[←e0,this,aa,DV]
  by_cases h:oq x l 0= -1
  ·rw[if_pos h,ET,h]
  ·rw[if_neg h,ES]
theorem NS {l:List (List UInt8)}{x:List UInt8}(hl:l.length≤1000000):(ev E).call 94 [LV.cv (CV.sl (bj l)),LV.str x] μ=some (.ret (LV.int .i64 (oq x l 0)) μ):=aN (Ic hl)
theorem D6 {l:List (List UInt8)}{x:List UInt8}(hl:l.length≤1000000):(ev E).call 50 [LV.cv (CV.sl (bj l)),LV.str x] μ=some (.ret (LV.bool (l.contains x)) μ):=by
 refine aN ?_
 rw[O1,NS hl]
 simp only[ad,ao,aa,ak,am,ah,ae,aj,aA,cond_true,cond_false,Bool.not_true,Bool.not_false,au,ar,aq]
 rw[sR]
end
end Go.Abs
set_option linter.unusedVariables false
set_option linter.unusedSimpArgs false
set_option maxRecDepth 100000
namespace Go.Abs
open Go Go.Proofs
def upB (c:UInt8):UInt8:=if 97≤c.toNat∧c.toNat≤122 then c-32 else c
theorem L1: ∀i:Fin 128,(if 0≤Lib.toUpperU (i.val:Int)then Lib.encodeRune (Lib.toUpperU (i.val:Int))else [])=[upB (UInt8.ofNat i.val)]:=by decide
theorem lO: ∀(l:List UInt8),(∀b∈l,b.toNat<128)→Lib.toUpperD l=l.map upB
 |[],_=>rfl
 |b::t,ha=>by
  have hb:=ha b List.mem_cons_self
  have ih:=lO t (fun x hx=>ha x (List.mem_cons_of_mem _ hx))
  have h1:=L1 ⟨b.toNat,hb⟩
  simp only at h1
  unfold Lib.toUpperD at ih ⊢
  rw[Lib.mapD_step Lib.toUpperU (b::t) (by simp),Lib.decodeL_ascii b t hb]
  dsimp only
  rw[h1,List.drop_succ_cons,List.drop_zero,ih]
  simp
theorem th {fx:Bool}{p:UInt8→Bool}: ∀(l:List UInt8) (k:Nat),∀b∈(cD fx p l k).1,p b=true
 |[],k,b,hb=>by simp[cD]at hb
 |c::r,k,b,hb=>by
  unfold cD at hb
  split at hb
  ·exact th r (k+1) b hb
  ·split at hb
   ·rename_i h
    simp only[List.mem_cons]at hb
    rcases hb with rfl|hb
    ·simp only[Bool.and_eq_true]at h;exact h.2
    ·exact th r 0 b hb
   ·simp at hb
theorem jG {fx:Bool}{p:UInt8→Bool}{s:List UInt8}{n:Nat}: ∀b∈bk fx p s n,p b=true:=th _ _
end Go.Abs
set_option linter.unusedVariables false
set_option linter.unusedSimpArgs false
set_option maxRecDepth 100000
namespace Go.Abs
open Go Go.Proofs
def dq:List (List UInt8):=[[46,76,84,46],[46,76,69,46],[46,69,81,46],[46,78,69,46],[46,71,69,46],[46,71,84,46],[46,78,79,84,46],[46,65,78,68,46],[46,79,82,46],[46,69,81,86,46],[46,78,69,81,86,46]]
def bX:List (List UInt8):=[[42,42],[47,47],[61,62],[42],[47],[43],[45],[40],[41],[44],[58],[61],[37]]
def eZ:List UInt8:=[46,84,82,85,69,46]
def eq:List UInt8:=[46,70,65,76,83,69,46]
abbrev up (s:List UInt8):List UInt8:=Lib.toUpperD s
theorem rl {fx:Bool}{p:UInt8→Bool}: ∀(l:List UInt8) (k:Nat),(cD fx p l k).1.length≤l.length∧(cD fx p l k).2≤k+l.length
 |[],k=>⟨Nat.le_refl _,by simp[cD]⟩
 |c::r,k=>by
  unfold cD
  have h1:=rl (fx:=fx) (p:=p) r (k+1)
  have h2:=rl (fx:=fx) (p:=p) r 0
  split
  ·simp only[List.length_cons];omega
  ·split
   ·simp only[List.length_cons];omega
   ·simp
section
variable {μ:Mu}{l i:Nat}{s:List UInt8}{fx:Bool}{r:List LV}
theorem fk {p:UInt8→Bool}{n:Nat}(hn:n≤s.length):runE fx p s n≤s.length:=by
 have:=(rl (fx:=fx) (p:=p) (s.drop n) 0).2
 rw[List.length_drop]at this
 unfold runE
 omega
theorem iw {p:UInt8→Bool}{n:Nat}:(bk fx p s n).length≤s.length:=by
 have:=(rl (fx:=fx) (p:=p) (s.drop n) 0).1
 rw[List.length_drop]at this
 unfold bk
 omega
theorem jP {c:UInt8}(h:bo c=true):c.toNat<128:=by
 simp only[bo,Bool.or_eq_true,Bool.and_eq_true,decide_eq_true_eq]at h
 omega
theorem Nu {n:Nat}:Lib.toUpperD (bk fx bo s n)=(bk fx bo s n).map upB:=lO _ fun b hb=>jP (jG b hb)
theorem NJ:(ev E).call 51 [] μ=some (.ret (LV.osl (bj dq)) μ):=aN (by rw[O2];rfl)
theorem Ks:(ev E).call 52 [] μ=some (.ret (LV.osl (bj bX)) μ):=aN (by rw[O3];rfl)
def cF (fx:Bool)(s:List UInt8)(n:Nat):List UInt8:=[46]++up (bk fx bo s (atE fx s n))++[46]
def dotEnd (fx:Bool)(s:List UInt8)(n:Nat):Nat:=atE fx s (runE fx bo s (atE fx s n))
def gM (fx:Bool)(s:List UInt8)(n:Nat):Bool:=decide (atC fx s (runE fx bo s (atE fx s n))=46)&&(dq.contains (cF fx s n)||decide (cF fx s n=eZ)||decide (cF fx s n=eq))
def bI (fx:Bool)(s:List UInt8)(n:Nat):List UInt8×Nat×Bool:=if atC fx s n=46 then(cF fx s n,dotEnd fx s n,gM fx s n)else([],n,false)
theorem bV {c:UInt8}{k:Nat}(hk:k<256):decide ((c.toNat:Int)=(k:Int))=decide (c=UInt8.ofNat k):=by
 have h2:(UInt8.ofNat k).toNat=k:=by simp[hk]
 by_cases h:c=UInt8.ofNat k
 ·subst h
  rw[h2];simp
 ·have h1:c.toNat≠k:=fun e=>h (UInt8.toNat.inj (by rw[e,h2]))
  simp only[h,decide_false,decide_eq_false_iff_not]
  omega
theorem He (h:Sc μ l i s fx r)(hs:s.length≤200000){n:Nat}(hn:n≤s.length):
  (ev E).call 172 [LV.cv (CV.ref l i 0),LV.int .i64 (n:Int)] μ=some (.ret (.ltup [LV.str (bI fx s n).1,LV.int .i64 ((bI fx s n).2.1:Nat),LV.bool (bI fx s n).2.2]) μ):=by
 refine aN ?_
 rw[Oa,gt h (by omega) hn]
 have e46: ∀c:UInt8,decide ((c.toNat:Int)=46)=decide (c=46):=fun c=>bV (k:=46) (by omega)
 simp only[ad,ao,aa,ak,am,ah,ae,aj,aA,cond_true,cond_false,Bool.not_true,Bool.not_false,au,ar,aq,e46]
 by_cases hc:atC fx s n=46
 ·have hle:=fa (fx:=fx) hn
  have hle2:=fk (fx:=fx) (p:=bo) hle
  have hr:=iw (fx:=fx) (s:=s) (p:=bo) (n:=atE fx s n)
  have hu:(Lib.toUpperD (bk fx bo s (atE fx s n))).length≤s.length:=by rw[Nu,List.length_map];exact hr
  have hG:Fx (ev E) l i (atE fx s n:Nat) μ=some (fq (cF fx s n) (dotEnd fx s n:Nat) (gM fx s n) μ):=by
   refine aU ?_
   rw[Jb,nd h (by omega) (fun c=>D7) hle]
   simp only[ad,ao,aa,ak,am,ah,ae,aj,aA,cond_true,cond_false,Bool.not_true,Bool.not_false,au,ar,aq]
   rw[gt h (by omega) hle2]
   simp only[ad,ao,aa,ak,am,ah,ae,aj,aA,cond_true,cond_false,Bool.not_true,Bool.not_false,au,ar,aq]
   rw[KE (by omega)]
   simp only[ad,ao,aa,ak,am,ah,ae,aj,aA,cond_true,cond_false,Bool.not_true,Bool.not_false,au,ar,aq]
   rw[bh (by simp;omega),bh (by simp;omega)]
   simp only[ad,ao,aa,ak,am,ah,ae,aj,aA,cond_true,cond_false,Bool.not_true,Bool.not_false,au,ar,aq,NJ]
   rw[D6 (l:=dq) (by decide)]
   simp only[ad,ao,aa,ak,am,ah,ae,aj,aA,cond_true,cond_false,Bool.not_true,Bool.not_false,au,ar,aq,e46]
   have ht:[46]++Lib.toUpperD (bk fx bo s (atE fx s n))++[46]=cF fx s n:=rfl
   have h3:([46,84,82,85,69,46]:List UInt8)=eZ:=rfl
   have h4:([46,70,65,76,83,69,46]:List UInt8)=eq:=rfl
   rw[ht,h3,h4]
   unfold gM
   have he:atE fx s (runE fx bo s (atE fx s n))=dotEnd fx s n:=rfl
   rw[he]
   cases dq.contains (cF fx s n)<;>cases decide (cF fx s n=eZ)<;>cases decide (atC fx s (runE fx bo s (atE fx s n))=46)<;>simp
  rw[hG]
  simp only[hc,decide_true,ad,ao,aa,ak,am,ah,ae,aj,aA,cond_true,cond_false,Bool.not_true,Bool.not_false,au,ar,aq,AW,bI,if_true]
 ·simp only[hc,decide_false,ad,ao,aa,ak,am,ah,ae,aj,aA,cond_true,cond_false,Bool.not_true,Bool.not_false,au,ar,aq,bI,if_false]
end
end Go.Abs
set_option linter.unusedVariables false
set_option linter.unusedSimpArgs false
set_option maxRecDepth 100000
namespace Go.Abs
open Go Go.Proofs
section
variable {μ:Mu}{l i:Nat}{s:List UInt8}{fx:Bool}{r:List LV}
theorem As: ∀i:Fin 256,IntKind.wrap .u8 ((BitVec.ofInt (IntKind.bits .u8) (i.val:Int) &&& ~~~BitVec.ofInt (IntKind.bits .u8) (32:Int)).toNat:Int)=(((UInt8.ofNat i.val) &&& 223).toNat:Int):=by decide
theorem K9 (c:UInt8):IntKind.wrap .u8 ((BitVec.ofInt (IntKind.bits .u8) (c.toNat:Int) &&& ~~~BitVec.ofInt (IntKind.bits .u8) (32:Int)).toNat:Int)=((c &&& 223).toNat:Int):=by
 have:=As ⟨c.toNat,c.toNat_lt⟩
 simpa using this
def cK (fx:Bool)(s:List UInt8)(n:Nat):UInt8:=atC fx s n &&& 223
def cG (fx:Bool)(s:List UInt8)(n:Nat):List UInt8:=if atC fx s (atE fx s n)=45 then [45]else []
def expStart (fx:Bool)(s:List UInt8)(n:Nat):Nat:=if atC fx s (atE fx s n)=43∨atC fx s (atE fx s n)=45 then atE fx s (atE fx s n)else atE fx s n
def aY (fx:Bool)(s:List UInt8)(n:Nat):List UInt8:=bk fx aw s (expStart fx s n)
def aX (fx:Bool)(s:List UInt8)(n:Nat):UInt8×List UInt8×Nat×Bool:=
 if cK fx s n=69∨cK fx s n=68 then(cK fx s n,cG fx s n++aY fx s n,runE fx aw s (expStart fx s n),!decide (aY fx s n=[]))else(0,[],n,false)
theorem Mv (h:Sc μ l i s fx r)(hs:s.length≤200000){n:Nat}(hn:n≤s.length):
  (ev E).call 191 [LV.cv (CV.ref l i 0),LV.int .i64 (n:Int)] μ=some (.ret (.ltup [LV.int .u8 ((aX fx s n).1.toNat:Int),LV.str (aX fx s n).2.1,LV.int .i64 ((aX fx s n).2.2.1:Nat),LV.bool (aX fx s n).2.2.2]) μ):=by
 have e69: ∀c:UInt8,decide ((c.toNat:Int)=69)=decide (c=69):=fun c=>bV (k:=69) (by omega)
 have e68: ∀c:UInt8,decide ((c.toNat:Int)=68)=decide (c=68):=fun c=>bV (k:=68) (by omega)
 have e43: ∀c:UInt8,decide ((c.toNat:Int)=43)=decide (c=43):=fun c=>bV (k:=43) (by omega)
 have e45: ∀c:UInt8,decide ((c.toNat:Int)=45)=decide (c=45):=fun c=>bV (k:=45) (by omega)
 have hle:=fa (fx:=fx) hn
 have hle2:=fa (fx:=fx) hle
 have hst:expStart fx s n≤s.length:=by unfold expStart;split<;>assumption
 have hr:=iw (fx:=fx) (s:=s) (p:=aw) (n:=expStart fx s n)
 have hG: ∀(sg:List UInt8),sg.length≤1→lf (ev E) l i ((cK fx s n).toNat:Int) (expStart fx s n:Nat) sg μ=some (nJ ((cK fx s n).toNat:Int) (sg++aY fx s n) (runE fx aw s (expStart fx s n):Nat) (!decide (aY fx s n=[])) μ):=by
  intro sg hsg
  refine aU ?_
  rw[HB,nd h (by omega) (fun c=>km) hst]
  simp only[ad,ao,aa,ak,am,ah,ae,aj,aA,cond_true,cond_false,Bool.not_true,Bool.not_false,au,ar,aq]
  rw[bh (by omega)]
  rfl
 have hG5:xz (ev E) l i ((cK fx s n).toNat:Int) (atE fx s n:Nat) μ=some (pp ((cK fx s n).toNat:Int) (cG fx s n++aY fx s n) (runE fx aw s (expStart fx s n):Nat) (!decide (aY fx s n=[])) μ):=by
  refine aU ?_
  rw[Jf,gt h (by omega) hle]
  simp only[ad,ao,aa,ak,am,ah,ae,aj,aA,cond_true,cond_false,Bool.not_true,Bool.not_false,au,ar,aq,e43,e45]
  by_cases h1:atC fx s (atE fx s n)=43
  ·have hx:expStart fx s n=atE fx s (atE fx s n):=by simp[expStart,h1]
   have hg:cG fx s n=[]:=by simp[cG,h1]
   have:=hG [] (by simp)
   rw[hx]at this
   simp only[h1,decide_true,ad,ao,aa,ak,am,ah,ae,aj,aA,cond_true,cond_false,Bool.not_true,Bool.not_false,au,ar,aq,hg]
   have h2:decide ((43:UInt8)=45)=false:=by decide
   rw[h2,cond_false,this,aa,lF,hx]
  ·by_cases h2:atC fx s (atE fx s n)=45
   ·have hx:expStart fx s n=atE fx s (atE fx s n):=by simp[expStart,h2]
    have hg:cG fx s n=[45]:=by simp[cG,h2]
    have:=hG [45] (by simp)
    rw[hx]at this
    have h3:decide ((45:UInt8)=43)=false:=by decide
    simp only[h2,h3,decide_true,ad,ao,aa,ak,am,ah,ae,aj,aA,cond_true,cond_false,Bool.not_true,Bool.not_false,au,ar,aq,hg]
    rw[this,aa,lF,hx]
   ·have hx:expStart fx s n=atE fx s n:=by simp[expStart,h1,h2]
    have hg:cG fx s n=[]:=by simp[cG,h2]
    have:=hG [] (by simp)
    rw[hx]at this
    simp only[h1,h2,decide_false,ad,ao,aa,ak,am,ah,ae,aj,aA,cond_true,cond_false,Bool.not_true,Bool.not_false,au,ar,aq,hg]
    rw[this,aa,lF,hx]
 refine aN ?_
 rw[Og,gt h (by omega) hn]
 simp only[ad,ao,aa,ak,am,ah,ae,aj,aA,cond_true,cond_false,Bool.not_true,Bool.not_false,au,ar,aq,K9]
 have hL:atC fx s n &&& 223=cK fx s n:=rfl
 rw[hL]
 simp only[e69,e68]
 by_cases h1:cK fx s n=69
 ·have:aX fx s n=(cK fx s n,cG fx s n++aY fx s n,runE fx aw s (expStart fx s n),!decide (aY fx s n=[])):=by simp[aX,h1]
  rw[this,hG5]
  simp only[h1,decide_true,ad,ao,aa,ak,am,ah,ae,aj,aA,cond_true,cond_false,Bool.not_true,Bool.not_false,au,ar,aq]
  rw[←h1,rE]
 ·by_cases h2:cK fx s n=68
  ·have:aX fx s n=(cK fx s n,cG fx s n++aY fx s n,runE fx aw s (expStart fx s n),!decide (aY fx s n=[])):=by simp[aX,h2]
   rw[this,hG5]
   have h3:decide ((68:UInt8)=69)=false:=by decide
   simp only[h2,h3,decide_true,ad,ao,aa,ak,am,ah,ae,aj,aA,cond_true,cond_false,Bool.not_true,Bool.not_false,au,ar,aq]
   rw[←h2,rE]
  ·have:aX fx s n=(0,[],n,false):=by simp[aX,h1,h2]
   rw[this]
   simp only[h1,h2,decide_false,ad,ao,aa,ak,am,ah,ae,aj,aA,cond_true,cond_false,Bool.not_true,Bool.not_false,au,ar,aq]
   rfl
structure Tok where
 kind:Int
 type:Int
 text:List UInt8
 deriving DecidableEq
def Tok.cv (t:Tok):CV:=CV.agg [CV.int .i64 t.kind,CV.int .i64 t.type,CV.str t.text]
def gf (e:Int):CV:=CV.iface 162 (CV.agg [CV.int .i64 e])
theorem i8 {e:Int}:(ev E).call 170 [LV.int .i64 e] μ=some (.panic (gf e) μ):=aN (by rw[N8];rfl)
def bF (s:List UInt8):List UInt8:=if s=[]then [48]else s
def dx (s:List UInt8):List UInt8:=Lib.trimLeftB s 48
def dy (s:List UInt8):List UInt8:=Lib.trimRightB s 48
theorem MD {t:List UInt8}:(ev E).call 65 [LV.str t,LV.bool true] μ=some (.ret (LV.str (bF (dx t))) μ):=by
 refine aN ?_
 rw[M2,Kv (by decide)]
 simp only[ad,ao,aa,ak,am,ah,ae,aj,aA,cond_true,cond_false,Bool.not_true,Bool.not_false,au,ar,aq,bF,dx]
 by_cases h:Lib.trimLeftB t 48=[]<;>simp[h]
theorem ME {t:List UInt8}(ht:t.length≤1000000):(ev E).call 65 [LV.str t,LV.bool false] μ=some (.ret (LV.str (bF (dy t))) μ):=by
 refine aN ?_
 rw[M2,Kw (by decide) ht]
 simp only[ad,ao,aa,ak,am,ah,ae,aj,aA,cond_true,cond_false,Bool.not_true,Bool.not_false,au,ar,aq,bF,dy]
 by_cases h:Lib.trimRightB t 48=[]<;>simp[h]
theorem wM (t:List UInt8):(dx t).length≤t.length:=by
 unfold dx Lib.trimLeftB
 exact(List.dropWhile_suffix _).length_le
theorem wN (t:List UInt8):(dy t).length≤t.length:=by
 unfold dy Lib.trimRightB
 rw[List.length_reverse]
 exact Nat.le_trans (List.dropWhile_suffix _).length_le (by simp)
theorem Mx {a b:List UInt8}(ha:a.length≤1000000)(hb:b.length≤1000000):(ev E).call 193 [LV.str a,LV.str b] μ=some (.ret (LV.int .i64 ((dx a).length+(dy b).length:Nat)) μ):=by
 refine aN ?_
 rw[Oi,Kv (by decide)]
 simp only[ad,ao,aa,ak,am,ah,ae,aj,aA,cond_true,cond_false,Bool.not_true,Bool.not_false,au,ar,aq]
 rw[Kw (by decide) hb]
 simp only[ad,ao,aa,ak,am,ah,ae,aj,aA,cond_true,cond_false,Bool.not_true,Bool.not_false,au,ar,aq]
 have h1:=wM a
 have h2:=wN b
 have e1:Lib.trimLeftB a 48=dx a:=rfl
 have e2:Lib.trimRightB b 48=dy b:=rfl
 rw[e1,e2,ce (by omega) (by omega)]
 simp
def dH (s:List UInt8):Int:=match Lib.atoiAll s with| .ok v=>v| .range=>Lib.atoiSat s|_=>0
def mg (s:List UInt8):Bool:=match Lib.atoiAll s with| .ok _=>true|_=>false
def w9 (s:List UInt8):CV:=match mg s with|true=> .v .nilIface|false=> .iface 146 .undef
theorem sP (s:List UInt8):tI 146 s= .ltup [LV.int .i64 (dH s),.cv (w9 s)]:=by
 unfold tI w9 dH mg
 cases Lib.atoiAll s<;>rfl
theorem EW (s:List UInt8):xj (.cv (w9 s))=some (mg s):=by
 unfold w9
 cases mg s<;>rfl
theorem mD (s:List UInt8): -9223372036854775808≤dH s∧dH s≤9223372036854775807:=by
 unfold dH
 split
 ·rename_i v h
  unfold Lib.atoiAll at h
  cases s with
  |nil=>cases h
  |cons c r=>
   simp only at h
   split at h
   ·cases h
   ·cases h
   ·rename_i u hu
    split at h
    ·cases h
    ·rename_i h1
     split at h
     ·cases h
     ·rename_i h2
      injection h with h
      subst h
      split<;>omega
 ·unfold Lib.atoiSat
  split<;>omega
 ·omega
theorem jv {c:CV}:dw (.cv c)=some c:=rfl
def Nc (μ:Mu):Except Int Tok→Out
 | .ok t=> .ret (.cv t.cv) μ
 | .error e=> .panic (gf e) μ
def de (d:List UInt8):Except Int Tok:=if 10<d.length∨mg d=false∨2147483647<dH d then .error 28 else .ok ⟨1,0,Lib.itoa (dH d)⟩
theorem Al {n:Nat}{e:Int}:below n (gf e)=true:=rfl
theorem Mw {d:List UInt8}(hd:d.length≤1000000):(ev E).call 192 [LV.str d] μ=some (Nc μ (de d)):=by
 refine aN ?_
 rw[Oh,D4 hd,sP]
 have hr:=mD d
 simp only[ad,ao,aa,ak,am,ah,ae,aj,aA,cond_true,cond_false,Bool.not_true,Bool.not_false,au,ar,aq,jv,i8,dJ,Al]
 by_cases h1:10<d.length
 ·have e1:decide ((10:Int)<(d.length:Int))=true:=by simp;omega
  have e2:de d= .error 28:=by simp[de,h1]
  rw[e1,e2,cond_true]
  rfl
 ·have e1:decide ((10:Int)<(d.length:Int))=false:=by simp;omega
  rw[e1,cond_false,EW,aa]
  cases h2:mg d with
  |false=>
   have e2:de d= .error 28:=by simp[de,h2]
   rw[e2];rfl
  |true=>
   simp only[ad,ao,aa,ak,am,ah,ae,aj,aA,cond_true,cond_false,Bool.not_true,Bool.not_false,au,ar,aq]
   by_cases h3:2147483647<dH d
   ·have e2:de d= .error 28:=by simp[de,h3]
    have e3:decide (2147483647<dH d)=true:=by simp[h3]
    rw[e2,e3];rfl
   ·have e2:de d= .ok ⟨1,0,Lib.itoa (dH d)⟩:=by simp[de,h1,h2,h3]
    have e3:decide (2147483647<dH d)=false:=by simp[h3]
    rw[e2,e3,cond_false,Kx hr.1 hr.2]
    rfl
end
end Go.Abs
