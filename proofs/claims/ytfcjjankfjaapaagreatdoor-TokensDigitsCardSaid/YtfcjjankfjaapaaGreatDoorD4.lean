/-
  The statement TokensDigitsCardSaid, proved; part 5 of 7 of its proof.
  Normal forms. Printed by a program.
  What the scanner's small functions answer.
  Classes of characters.
  What characters are, and whether a text is in a list.
  strings.ToUpper on bytes below 128: byte by byte.
  Words between dots, exponents, numbers.
-/
import Derived.Test.YtfcjjankfjaapaaGreatDoorD2
import Derived.Test.YtfcjjankfjaapaaGreatDoorD3
import Derived.Lib.MapLaws
import Derived.Lib.TrimAscii
import Derived.Lib.Case
set_option linter.all false
set_option linter.unusedSectionVars false
set_option linter.unusedVariables false
set_option maxRecDepth 1000000
namespace Go.Abs
open Go Go.Proofs
noncomputable section
variable (ρ:Rho)
def LU (x0:List UInt8)(x1:Int)(o0_0:List UInt8)(o0_1:Int):SegD:=⟨H6,[(6,0)],cA 6 [1,1],mS [(0,LV.str x0),(1,LV.int .i64 x1),(5,LV.loc 0 0)] [Ob.cells [LV.str o0_0,LV.int .i64 o0_1]]⟩
def Pb (x0:List UInt8)(x1:Int)(o0_0:List UInt8)(o0_1:Int)(μ:Mu):=(LU x0 x1 o0_0 o0_1).seg ρ μ
def nS (x6:Bool)(μ:Mu):St:= .ret (mS [(6,LV.bool x6)] []) μ
def L7 (x0:List UInt8)(x1:Int)(o0_0:List UInt8)(o0_1:Int):SegD:=⟨H6,[(6,0)],cA 6 [1,1,1],mS [(0,LV.str x0),(1,LV.int .i64 x1),(5,LV.loc 0 0)] [Ob.cells [LV.str o0_0,LV.int .i64 o0_1]]⟩
def O5 (x0:List UInt8)(x1:Int)(o0_0:List UInt8)(o0_1:Int)(μ:Mu):=(L7 x0 x1 o0_0 o0_1).seg ρ μ
def nw (x6:Bool)(μ:Mu):St:= .ret (mS [(6,LV.bool x6)] []) μ
def HE (x1:Int)(x9:List UInt8)(x10:Int)(o0_0:List UInt8)(o0_1:Int):SegD:=⟨H6,[(6,0)],cA 6 [1,1,1,1,1,1,1],mS [(1,LV.int .i64 x1),(5,LV.loc 0 0),(9,LV.str x9),(10,LV.int .i64 x10)] [Ob.cells [LV.str o0_0,LV.int .i64 o0_1]]⟩
def Mx (x1:Int)(x9:List UInt8)(x10:Int)(o0_0:List UInt8)(o0_1:Int)(μ:Mu):=(HE x1 x9 x10 o0_0 o0_1).seg ρ μ
def md (x6:Bool)(μ:Mu):St:= .ret (mS [(6,LV.bool x6)] []) μ
def HU (x9:List UInt8)(x12:Int)(o0_0:List UInt8)(o0_1:Int):SegD:=⟨H6,[(6,0)],cA 6 [1,1,1,1,1,1,1,1,1],mS [(5,LV.loc 0 0),(9,LV.str x9),(12,LV.int .i64 x12)] [Ob.cells [LV.str o0_0,LV.int .i64 o0_1]]⟩
def Mk (x9:List UInt8)(x12:Int)(o0_0:List UInt8)(o0_1:Int)(μ:Mu):=(HU x9 x12 o0_0 o0_1).seg ρ μ
def ov (x6:Bool)(μ:Mu):St:= .ret (mS [(6,LV.bool x6)] []) μ
def If (x9 o0_0:List UInt8)(o0_1:Int):SegD:=⟨H6,[(6,0)],cA 6 [1,1,1,1,1,1,1,1,1,1],mS [(5,LV.loc 0 0),(9,LV.str x9)] [Ob.cells [LV.str o0_0,LV.int .i64 o0_1]]⟩
def Mo (x9 o0_0:List UInt8)(o0_1:Int)(μ:Mu):=(If x9 o0_0 o0_1).seg ρ μ
def pk (x6:Bool)(μ:Mu):St:= .ret (mS [(6,LV.bool x6)] []) μ
def Kb (pv:CV)(μ:Mu):St:= .panic pv (mS [] []) μ
def Lv (pv:CV)(μ:Mu):St:= .panic pv (mS [] []) μ
def vZ (pv:CV)(μ:Mu):St:= .panic pv (mS [] []) μ
theorem MS (x9 o0_0 o0_1 μ):(If x9 o0_0 o0_1).sK ρ μ=
 callK (ρ.call 25 [LV.str x9] μ) (fun v48 μ49 =>
 opt (aR v48) fun xs52=>
 opt (aA xs52) fun q53=>
 Fb q53.1 fun s54 n55=>
 opt (aA q53.2) fun q56=>
 opt (aE .i64 q56.1) fun n57=>
 opt (aM q56.2) fun u58=>
 cond (decide (n57 = (0 : Int))) (
 some (pk (decide (s54=o0_0)&&(decide (n55=o0_1)&&true)) μ49)) (
 some (pk false μ49))) (pX Kb):=by kernel_rfl
theorem D4 (x6 μ):kS ρ H6 [] [(6,0)] (pk x6 μ)=
 some (ov x6 μ):=by kernel_rfl
theorem Nu (x9 x12 o0_0 o0_1 μ):(HU x9 x12 o0_0 o0_1).sK ρ μ=
 cond (!decide (x12 = (0 : Int))) (
 some (ov true μ)) (
 opt (Mo ρ x9 o0_0 o0_1 μ) (kS ρ H6 [] [(6,0)])):=by kernel_rfl
theorem FW (x6 μ):kS ρ H6 [] [(6,0)] (ov x6 μ)=
 some (md x6 μ):=by kernel_rfl
theorem Nn (x1 x9 x10 o0_0 o0_1 μ):(HE x1 x9 x10 o0_0 o0_1).sK ρ μ=
 callK (ρ.call 28 [LV.int .i64 x1, LV.cv (CV.agg [CV.str o0_0, CV.int .i64 o0_1])] μ) (fun v38 μ39 =>
 opt (aR v38) fun xs42=>
 opt (aA xs42) fun q43=>
 opt (aI q43.1) fun s44=>
 opt (aA q43.2) fun q45=>
 opt (aE .i64 q45.1) fun n46=>
 opt (aM q45.2) fun u47=>
 cond (!decide (x10 = n46)) (
 some (md false μ39)) (
 cond (!decide (x9 = s44)) (
 some (md false μ39)) (
 opt (Mk ρ x9 n46 o0_0 o0_1 μ39) (kS ρ H6 [] [(6,0)])))) (pX Lv):=by kernel_rfl
theorem F4 (x6 μ):kS ρ H6 [] [(6,0)] (md x6 μ)=
 some (nw x6 μ):=by kernel_rfl
theorem Oo (x0 x1 o0_0 o0_1 μ):(L7 x0 x1 o0_0 o0_1).sK ρ μ=
 callK (ρ.call 25 [LV.str x0] μ) (fun v6 μ7 =>
 opt (aR v6) fun xs10=>
 opt (aA xs10) fun q11=>
 Fb q11.1 fun s12 n13=>
 opt (aA q11.2) fun q14=>
 opt (aE .i64 q14.1) fun n15=>
 opt (aM q14.2) fun u16=>
 callK (ρ.call 26 [LV.int .i64 x1, LV.cv (CV.agg [CV.str o0_0, CV.int .i64 o0_1])] μ7) (fun v17 μ18 =>
 opt (aR v17) fun xs21=>
 opt (aA xs21) fun q22=>
 opt (aI q22.1) fun s23=>
 opt (aA q22.2) fun q24=>
 opt (aE .i64 q24.1) fun n25=>
 opt (aM q24.2) fun u26=>
 callK (ρ.call 27 [LV.str x0] μ18) (fun v27 μ28 =>
 opt (aR v27) fun xs31=>
 opt (aA xs31) fun q32=>
 Fb q32.1 fun s33 n34=>
 opt (aA q32.2) fun q35=>
 opt (aE .i64 q35.1) fun n36=>
 opt (aM q35.2) fun u37=>
 cond (!decide (n15 = n36)) (
 some (nw false μ28)) (
 cond (!(decide (s12 = s33) && (decide (n13 = n34) && true))) (
 some (nw false μ28)) (
 opt (Mx ρ x1 s23 n25 o0_0 o0_1 μ28) (kS ρ H6 [] [(6,0)])))) (pX vZ)) (pX vZ)) (pX vZ):=by kernel_rfl
theorem GG (x6 μ):kS ρ H6 [] [(6,0)] (nw x6 μ)=
 some (nS x6 μ):=by kernel_rfl
theorem O0 (x0 x1 o0_0 o0_1 μ):(LU x0 x1 o0_0 o0_1).sK ρ μ=
 cond (decide ((130 : Int) < (List.length x0 : Int))) (
 some (nS true μ)) (
 cond (decide ((130 : Int) < (List.length o0_0 : Int))) (
 some (nS true μ)) (
 opt (O5 ρ x0 x1 o0_0 o0_1 μ) (kS ρ H6 [] [(6,0)]))):=by kernel_rfl
theorem IT (x6 μ):kB ρ 6 H6 [] (nS x6 μ)=
 some (.ret (LV.bool x6) μ):=by kernel_rfl
theorem nf6 (a b c_0 c_1 μ):aG E ρ 6 [LV.str a,LV.int .i64 b,LV.cv (CV.agg [CV.str c_0,CV.int .i64 c_1])] μ=
 callK (ρ.call 11 [] μ) (fun v1 μ2 =>
 opt (aN v1) fun b5=>
 cond (!b5) (
 some (.ret (LV.bool false) μ2)) (
 opt (Pb ρ a b c_0 c_1 μ2) (kB ρ 6 H6 []))) pP:=by kernel_rfl
def H2 (x1:List UInt8):SegD:=⟨H12,[],cA 12 [1,0,1,0,1,0,1],mS [(1,LV.str x1)] []⟩
def xM (x1:List UInt8)(μ:Mu):=(H2 x1).seg ρ μ
def pr (x4:Int)(μ:Mu):St:= .ret (mS [(4,LV.int .i64 x4)] []) μ
def K1 (pv:CV)(μ:Mu):St:= .panic pv (mS [] []) μ
def DF (x0:Int)(x1:List UInt8)(x39:Bool):SegD:=⟨H12,[],cA 12 [1,0,1,0,1,1,1],mS [(0,LV.int .i64 x0),(1,LV.str x1),(39,LV.bool x39)] []⟩
def lV (x0:Int)(x1:List UInt8)(x39:Bool)(μ:Mu):=(DF x0 x1 x39).seg ρ μ
def gt (x4:Int)(μ:Mu):St:= .ret (mS [(4,LV.int .i64 x4)] []) μ
def GD (pv:CV)(μ:Mu):St:= .panic pv (mS [] []) μ
def qY (μ:Mu):St:= .norm (mS [] []) μ
theorem M4 (x1 μ):(H2 x1).sK ρ μ=
 callK (ρ.call 45 [LV.str x1] μ) (fun v7 μ8 =>
 opt (aR v7) fun xs11=>
 opt (aA xs11) fun q12=>
 opt (aE .i64 q12.1) fun n13=>
 opt (aA q12.2) fun q14=>
 opt (de q14.1) fun c15=>
 opt (aM q14.2) fun u16=>
 cond (decide ((2147483647 : Int) < n13)) (
 some (pr (28:Int) μ8)) (
 some (pr (0:Int) μ8))) (pX K1):=by kernel_rfl
theorem E8 (x4 μ):kB ρ 12 H12 [.block 0,.seq (cA 12 [1,1])] (pr x4 μ)=
 some (.ret (LV.int .i64 x4) μ):=by kernel_rfl
theorem zM (x0 x1 x39 μ):(DF x0 x1 x39).sK ρ μ=
 cond (x39) (
 callK (ρ.call 46 [LV.str x1] μ) (fun v19 μ20 =>
 opt (aR v19) fun xs23=>
 opt (aA xs23) fun q24=>
 fM q24.1 fun n25 n26 s27=>
 opt (aA q24.2) fun q28=>
 opt (aN q28.1) fun b29=>
 opt (aM q28.2) fun u30=>
 cond (!b29) (
 some (gt (3:Int) μ20)) (
 cond (!decide (n25 = (1 : Int))) (
 some (gt (3:Int) μ20)) (
 cond (!decide (n26 = x0)) (
 some (gt (3:Int) μ20)) (
 cond (!decide (s27 = x1)) (
 some (gt (3:Int) μ20)) (
 some (gt (0:Int) μ20)))))) (pX GD)) (
 some (qY μ)):=by kernel_rfl
theorem A9 (x4 μ):kB ρ 12 H12 [.block 0,.seq (cA 12 [1,1])] (gt x4 μ)=
 some (.ret (LV.int .i64 x4) μ):=by kernel_rfl
theorem Bi (μ):kB ρ 12 H12 [.block 0,.seq (cA 12 [1,1])] (qY μ)=
 some (.ret (LV.int .i64 (15:Int)) μ):=by kernel_rfl
theorem QJ (a b μ):aG E ρ 12 [LV.int .i64 a,LV.str b] μ=
 cond (decide (a = (0 : Int))) (
 cond (decide (b = ([] : List UInt8))) (
 some (.ret (LV.int .i64 (3:Int)) μ)) (
 cond (decide ((10 : Int) < (List.length b : Int))) (
 some (.ret (LV.int .i64 (3:Int)) μ)) (
 callK (ρ.call 43 [LV.str b, LV.cv (CV.clo 44 [])] μ) (fun v1 μ2 =>
 opt (aN v1) fun b5=>
 cond (b5) (
 some (.ret (LV.int .i64 (3:Int)) μ2)) (
 opt (aX b (0:Int)) fun y6=>
 cond (decide ((y6.toNat : Int) = (48 : Int))) (
 cond (!decide (b = ([48] : List UInt8))) (
 some (.ret (LV.int .i64 (3:Int)) μ2)) (
 opt (xM ρ b μ2) (kB ρ 12 H12 [.block 0,.seq (cA 12 [1,1])]))) (
 opt (xM ρ b μ2) (kB ρ 12 H12 [.block 0,.seq (cA 12 [1,1])])))) pP))) (
 cond (decide (a = (1 : Int))) (
 opt (lV ρ a b (decide (a=(1:Int))) μ) (kB ρ 12 H12 [.block 0,.seq (cA 12 [1,1])])) (
 cond (decide (a = (2 : Int))) (
 opt (lV ρ a b (decide (a=(2:Int))) μ) (kB ρ 12 H12 [.block 0,.seq (cA 12 [1,1])])) (
 cond (decide (a = (5 : Int))) (
 opt (lV ρ a b (decide (a=(5:Int))) μ) (kB ρ 12 H12 [.block 0,.seq (cA 12 [1,1])])) (
 opt (lV ρ a b (decide (a=(6:Int))) μ) (kB ρ 12 H12 [.block 0,.seq (cA 12 [1,1])]))))):=by kernel_rfl
def I6 (x0:Int)(x1:List UInt8):SegD:=⟨H13,[(4,0)],cA 13 [1,1],mS [(0,LV.int .i64 x0),(1,LV.str x1)] []⟩
def L3 (x0:Int)(x1:List UInt8)(μ:Mu):=(I6 x0 x1).seg ρ μ
def lW (x4:Int)(μ:Mu):St:= .ret (mS [(4,LV.int .i64 x4)] []) μ
def I4 (x0:Int)(x1:List UInt8):SegD:=⟨H13,[(4,0)],cA 13 [1,1,1],mS [(0,LV.int .i64 x0),(1,LV.str x1)] []⟩
def rV (x0:Int)(x1:List UInt8)(μ:Mu):=(I4 x0 x1).seg ρ μ
def lL (x4:Int)(μ:Mu):St:= .ret (mS [(4,LV.int .i64 x4)] []) μ
def Io (x0:Int)(x1:List UInt8):SegD:=⟨H13,[(4,0)],cA 13 [1,1,1,1],mS [(0,LV.int .i64 x0),(1,LV.str x1)] []⟩
def Mj (x0:Int)(x1:List UInt8)(μ:Mu):=(Io x0 x1).seg ρ μ
def jR (x4:Int)(μ:Mu):St:= .ret (mS [(4,LV.int .i64 x4)] []) μ
def Lb (pv:CV)(μ:Mu):St:= .panic pv (mS [] []) μ
def Ke (pv:CV)(μ:Mu):St:= .panic pv (mS [] []) μ
def J7 (pv:CV)(μ:Mu):St:= .panic pv (mS [] []) μ
theorem MI (x0 x1 μ):(Io x0 x1).sK ρ μ=
 callK (ρ.call 18 [LV.str x1] μ) (fun v17 μ18 =>
 opt (aR v17) fun xs21=>
 opt (aA xs21) fun q22=>
 opt (cM q22.1) fun l23=>
 opt (aA q22.2) fun q24=>
 opt (aE .i64 q24.1) fun n25=>
 opt (aA q24.2) fun q26=>
 opt (aE .i64 q26.1) fun n27=>
 opt (aM q26.2) fun u28=>
 cond (!decide (n27 = (0 : Int))) (
 some (jR (3:Int) μ18)) (
 cond (!decide ((List.length l23 : Int) = (1 : Int))) (
 some (jR (3:Int) μ18)) (
 opt (dZ l23 (0:Int)) fun c29=>
 fM (LV.cv c29) fun n30 n31 s32=>
 cond (!(decide (n30 = (1 : Int)) && (decide (n31 = x0) && (decide (s32 = x1) && true)))) (
 some (jR (3:Int) μ18)) (
 some (jR (0:Int) μ18))))) (pX Lb):=by kernel_rfl
theorem EU (x4 μ):kS ρ H13 [] [(4,0)] (jR x4 μ)=
 some (lL x4 μ):=by kernel_rfl
theorem Nr (x0 x1 μ):(I4 x0 x1).sK ρ μ=
 cond (decide ((122 : Int) < (List.length x1 : Int))) (
 some (lL (3:Int) μ)) (
 callK (ρ.call 48 [LV.str x1] μ) (fun v12 μ13 =>
 opt (aE .i64 v12) fun n16=>
 cond (!decide (n16 = (0 : Int))) (
 some (lL (3:Int) μ13)) (
 opt (Mj ρ x0 x1 μ13) (kS ρ H13 [] [(4,0)]))) (pX Ke)):=by kernel_rfl
theorem Gj (x4 μ):kS ρ H13 [] [(4,0)] (lL x4 μ)=
 some (lW x4 μ):=by kernel_rfl
theorem Nc (x0 x1 μ):(I6 x0 x1).sK ρ μ=
 cond (decide (x0 = (0 : Int))) (
 cond (decide ((List.length x1 : Int) = (10 : Int))) (
 callK (ρ.call 47 [LV.str x1, LV.int .i64 (0 : Int)] μ) (fun v6 μ7 =>
 opt (aE .i64 v6) fun n10=>
 cond (decide (n10 = (10 : Int))) (
 opt (aX x1 (0:Int)) fun y11=>
 cond (!decide ((y11.toNat : Int) = (48 : Int))) (
 cond (!(Op.bytesLess x1 ([50, 49, 52, 55, 52, 56, 51, 54, 52, 55] : List UInt8) || decide (x1 = ([50, 49, 52, 55, 52, 56, 51, 54, 52, 55] : List UInt8)))) (
 some (lW (28:Int) μ7)) (
 opt (rV ρ x0 x1 μ7) (kS ρ H13 [] [(4,0)]))) (
 opt (rV ρ x0 x1 μ7) (kS ρ H13 [] [(4,0)]))) (
 opt (rV ρ x0 x1 μ7) (kS ρ H13 [] [(4,0)]))) (pX J7)) (
 opt (rV ρ x0 x1 μ) (kS ρ H13 [] [(4,0)]))) (
 opt (rV ρ x0 x1 μ) (kS ρ H13 [] [(4,0)])):=by kernel_rfl
theorem Fv (x4 μ):kB ρ 13 H13 [] (lW x4 μ)=
 some (.ret (LV.int .i64 x4) μ):=by kernel_rfl
theorem Qp (a b μ):aG E ρ 13 [LV.int .i64 a,LV.str b] μ=
 callK (ρ.call 23 [LV.int .i64 a, LV.int .i64 (0 : Int), LV.int .i64 (6 : Int)] μ) (fun v1 μ2 =>
 opt (aN v1) fun b5=>
 cond (!b5) (
 some (.ret (LV.int .i64 (15:Int)) μ2)) (
 cond (decide (a = (3 : Int))) (
 some (.ret (LV.int .i64 (15:Int)) μ2)) (
 cond (decide (a = (4 : Int))) (
 some (.ret (LV.int .i64 (15:Int)) μ2)) (
 opt (L3 ρ a b μ2) (kB ρ 13 H13 []))))) pP:=by kernel_rfl
def HC (x0:List UInt8):SegD:=⟨H18,[(2,2),(3,0),(4,0)],cA 18 [1,1],mS [(0,LV.str x0)] []⟩
def L9 (x0:List UInt8)(μ:Mu):=(HC x0).seg ρ μ
def JF (x0:List UInt8)(x6:List CV)(x7:Int):SegD:=⟨H18,[(6,1)],cA 18 [1,1,1,1,0,0,0],mS [(0,LV.str x0),(6,LV.osl x6),(7,LV.int .i64 x7)] []⟩
def rr (x0:List UInt8)(x6:List CV)(x7:Int)(μ:Mu):=(JF x0 x6 x7).loop ρ μ
def GE (x0:List UInt8)(x6:List CV)(x7:Int):SegD:=⟨H18,[(0,0),(6,1),(7,0)],cA 18 [1,1,1,1,0,0,0,1,0,1],mS [(0,LV.str x0),(6,LV.osl x6),(7,LV.int .i64 x7)] []⟩
def F7 (x0:List UInt8)(x6:List CV)(x7:Int)(μ:Mu):=(GE x0 x6 x7).seg ρ μ
def tK (x2:List CV)(x3 x4:Int)(μ:Mu):St:= .ret (mS [(2,LV.cv (CV.sl x2)),(3,LV.int .i64 x3),(4,LV.int .i64 x4)] []) μ
def Cs (x0:List UInt8)(x6:List CV)(o0_0 o0_1:Int)(o0_2:List UInt8)(o0_3 o0_4:Int):SegD:=⟨H18,[(0,0),(6,1),(7,0)],cA 18 [1,1,1,1,0,0,0,1,0,1,1,1],mS [(0,LV.str x0),(6,LV.osl x6),(8,LV.loc 0 0)] [Ob.cells [LV.int .i64 o0_0,LV.int .i64 o0_1,LV.str o0_2,LV.int .i64 o0_3,LV.int .i64 o0_4]]⟩
def Jj (x0:List UInt8)(x6:List CV)(o0_0 o0_1:Int)(o0_2:List UInt8)(o0_3 o0_4:Int)(μ:Mu):=(Cs x0 x6 o0_0 o0_1 o0_2 o0_3 o0_4).seg ρ μ
def ro (x0:List UInt8)(x6:List CV)(x7:Int)(μ:Mu):St:= .norm (mS [(0,LV.str x0),(6,LV.osl x6),(7,LV.int .i64 x7)] []) μ
def sT (x0:List UInt8)(x6:List CV)(x7:Int)(μ:Mu):St:= .norm (mS [(0,LV.str x0),(6,LV.osl x6),(7,LV.int .i64 x7)] []) μ
def K2 (pv:CV)(μ:Mu):St:= .panic pv (mS [] []) μ
def sV (x2:List CV)(x3 x4:Int)(μ:Mu):St:= .ret (mS [(2,LV.cv (CV.sl x2)),(3,LV.int .i64 x3),(4,LV.int .i64 x4)] []) μ
def sR (x6:List CV)(μ:Mu):St:= .exit 0 (mS [(6,LV.osl x6)] []) μ
def lK (x2:List CV)(x3 x4:Int)(μ:Mu):St:= .ret (mS [(2,LV.cv (CV.sl x2)),(3,LV.int .i64 x3),(4,LV.int .i64 x4)] []) μ
theorem K0 (x0 x6 o0_0 o0_1 o0_2 o0_3 o0_4 μ):(Cs x0 x6 o0_0 o0_1 o0_2 o0_3 o0_4).sK ρ μ=
 az (gg 3 x6 [CV.agg [CV.int .i64 o0_0, CV.int .i64 o0_1, CV.str o0_2]]) (
 some (ro x0 (x6++[CV.agg [CV.int .i64 o0_0,CV.int .i64 o0_1,CV.str o0_2]]) o0_3 μ)):=by kernel_rfl
theorem AR (x0 x6 x7 μ):kS ρ H18 [] [(0,0),(6,1),(7,0)] (ro x0 x6 x7 μ)=
 some (sT x0 x6 x7 μ):=by kernel_rfl
theorem Db (x0 x6 x7 μ):(GE x0 x6 x7).sK ρ μ=
 callK (ρ.call 58 [LV.str x0, LV.int .i64 x7] μ) (fun v7 μ8 =>
 zD v7 fun n11 n12 s13 n14 n15=>
 cond (!decide (n15 = (0 : Int))) (
 some (tK [] x7 n15 μ8)) (
 opt (Jj ρ x0 x6 n11 n12 s13 n14 n15 μ8) (kS ρ H18 [] [(0,0),(6,1),(7,0)]))) (pX K2):=by kernel_rfl
theorem EG (x2 x3 x4 μ):kR ρ H18 [.block 1] [(6,1)] (cA 18 [1,1,1,1,0,0,0]) (tK x2 x3 x4 μ)=
 some (sV x2 x3 x4 μ):=by kernel_rfl
theorem EF (x0 x6 x7 μ):kR ρ H18 [.block 1] [(6,1)] (cA 18 [1,1,1,1,0,0,0]) (sT x0 x6 x7 μ)=
 rr ρ x0 x6 x7 μ:=by kernel_rfl
theorem wb (x0 x6 x7 μ):(JF x0 x6 x7).rK ρ μ=
 cond (decide (x7 < (List.length x0 : Int))) (
 opt (aX x0 x7) fun y6=>
 cond (decide ((y6.toNat : Int) = (32 : Int))) (
 rr ρ x0 x6 (IntKind.wrap .i64 (x7+(1:Int))) μ) (
 opt (F7 ρ x0 x6 x7 μ) (kR ρ H18 [.block 1] [(6,1)] (cA 18 [1,1,1,1,0,0,0])))) (
 some (sR x6 μ)):=by kernel_rfl
theorem EQ (x2 x3 x4 μ):kS ρ H18 [.block 0,.seq (cA 18 [1,1,1,1,1])] [(2,2),(3,0),(4,0)] (sV x2 x3 x4 μ)=
 some (lK x2 x3 x4 μ):=by kernel_rfl
theorem FQ (x6 μ):kS ρ H18 [.block 0,.seq (cA 18 [1,1,1,1,1])] [(2,2),(3,0),(4,0)] (sR x6 μ)=
 cond (decide ((300 : Int) < (List.length x6 : Int))) (
 some (lK [] (0:Int) (8:Int) μ)) (
 some (lK x6 (List.length x6:Int) (0:Int) μ)):=by kernel_rfl
theorem Nv (x0 μ):(HC x0).sK ρ μ=
 opt (rr ρ x0 [] (0:Int) μ) (kS ρ H18 [.block 0,.seq (cA 18 [1,1,1,1,1])] [(2,2),(3,0),(4,0)]):=by kernel_rfl
theorem FV (x2 x3 x4 μ):kB ρ 18 H18 [] (lK x2 x3 x4 μ)=
 some (.ret (LV.ltup [LV.cv (CV.sl x2),LV.int .i64 x3,LV.int .i64 x4]) μ):=by kernel_rfl
theorem QC (a μ):aG E ρ 18 [LV.str a] μ=
 callK (ρ.call 48 [LV.str a] μ) (fun v1 μ2 =>
 opt (aE .i64 v1) fun n5=>
 cond (!decide (n5 = (0 : Int))) (
 some (.ret (LV.ltup [LV.cv (CV.v (.slice none 0 0)),LV.int .i64 (0:Int),LV.int .i64 n5]) μ2)) (
 opt (L9 ρ a μ2) (kB ρ 18 H18 []))) pP:=by kernel_rfl
theorem Qn (a b c μ):aG E ρ 23 [LV.int .i64 a,LV.int .i64 b,LV.int .i64 c] μ=
 cond (decide (a < b)) (
 some (.ret (LV.bool false) μ)) (
 some (.ret (LV.bool (!(decide (c<a)))) μ)):=by kernel_rfl
def HK (x0:List UInt8)(x4:Int)(o0_0:List UInt8)(o0_1:Int):SegD:=⟨H25,[(2,0),(3,0)],cA 25 [1,1,1],mS [(0,LV.str x0),(2,LV.loc 0 0),(4,LV.int .i64 x4)] [Ob.cells [LV.str o0_0,LV.int .i64 o0_1]]⟩
def D8 (x0:List UInt8)(x4:Int)(o0_0:List UInt8)(o0_1:Int)(μ:Mu):=(HK x0 x4 o0_0 o0_1).seg ρ μ
def l7 (x3:Int)(o0_0:List UInt8)(o0_1:Int)(μ:Mu):St:= .ret (mS [(2,LV.loc 0 0),(3,LV.int .i64 x3)] [Ob.cells [LV.str o0_0,LV.int .i64 o0_1]]) μ
def Hi (x0 o0_0:List UInt8)(o0_1:Int):SegD:=⟨H25,[(2,0),(3,0)],cA 25 [1,1,1,1],mS [(0,LV.str x0),(2,LV.loc 0 0)] [Ob.cells [LV.str o0_0,LV.int .i64 o0_1]]⟩
def Mm (x0 o0_0:List UInt8)(o0_1:Int)(μ:Mu):=(Hi x0 o0_0 o0_1).seg ρ μ
def CQ (x0:List UInt8)(x6:Int)(o0_0:List UInt8)(o0_1:Int):SegD:=⟨H25,[(2,0),(3,0)],cA 25 [1,1,1,1,1,1],mS [(0,LV.str x0),(2,LV.loc 0 0),(6,LV.int .i64 x6)] [Ob.cells [LV.str o0_0,LV.int .i64 o0_1]]⟩
def pZ (x0:List UInt8)(x6:Int)(o0_0:List UInt8)(o0_1:Int)(μ:Mu):=(CQ x0 x6 o0_0 o0_1).seg ρ μ
def mF (x3:Int)(o0_0:List UInt8)(o0_1:Int)(μ:Mu):St:= .ret (mS [(2,LV.loc 0 0),(3,LV.int .i64 x3)] [Ob.cells [LV.str o0_0,LV.int .i64 o0_1]]) μ
def Dl (x6:Int)(x11 x12 o0_0:List UInt8)(o0_1:Int):SegD:=⟨H25,[(2,0),(3,0)],cA 25 [1,1,1,1,1,1,1,1,1,1,1],mS [(2,LV.loc 0 0),(6,LV.int .i64 x6),(11,LV.str x11),(12,LV.str x12)] [Ob.cells [LV.str o0_0,LV.int .i64 o0_1]]⟩
def Hz (x6:Int)(x11 x12 o0_0:List UInt8)(o0_1:Int)(μ:Mu):=(Dl x6 x11 x12 o0_0 o0_1).seg ρ μ
def re (x3:Int)(o0_0:List UInt8)(o0_1:Int)(μ:Mu):St:= .ret (mS [(2,LV.loc 0 0),(3,LV.int .i64 x3)] [Ob.cells [LV.str o0_0,LV.int .i64 o0_1]]) μ
def q7 (pv:CV)(μ:Mu):St:= .panic pv (mS [] []) μ
def nY (x3:Int)(o0_0:List UInt8)(o0_1:Int)(μ:Mu):St:= .ret (mS [(2,LV.loc 0 0),(3,LV.int .i64 x3)] [Ob.cells [LV.str o0_0,LV.int .i64 o0_1]]) μ
def sX (pv:CV)(μ:Mu):St:= .panic pv (mS [] []) μ
theorem KJ (x6 x11 x12 o0_0 o0_1 μ):(Dl x6 x11 x12 o0_0 o0_1).sK ρ μ=
 some (re (0:Int) x12 (IntKind.wrap .i64 (IntKind.wrap .i64 (x6+(List.length x11:Int)) -(List.length x12:Int))) μ):=by kernel_rfl
theorem Bs (x3 o0_0 o0_1 μ):kS ρ H25 [] [(2,0),(3,0)] (re x3 o0_0 o0_1 μ)=
 some (mF x3 o0_0 o0_1 μ):=by kernel_rfl
theorem Kg (x0 x6 o0_0 o0_1 μ):(CQ x0 x6 o0_0 o0_1).sK ρ μ=
 callK (ρ.call 61 [LV.str x0, LV.str ([46] : List UInt8)] μ) (fun v28 μ29 =>
 opt (aR v28) fun xs32=>
 opt (aA xs32) fun q33=>
 opt (aI q33.1) fun s34=>
 opt (aA q33.2) fun q35=>
 opt (aI q35.1) fun s36=>
 opt (aA q35.2) fun q37=>
 opt (aN q37.1) fun b38=>
 opt (aM q37.2) fun u39=>
 az (a6 (List.length s34 + List.length s36)) (
 callK (ρ.call 62 [LV.str (s34 ++ s36), LV.str ([48] : List UInt8)] μ29) (fun v40 μ41 =>
 opt (aI v40) fun s44=>
 callK (ρ.call 63 [LV.str s44, LV.str ([48] : List UInt8)] μ41) (fun v45 μ46 =>
 opt (aI v45) fun s49=>
 cond (decide (s49 = ([] : List UInt8))) (
 some (mF (0:Int) ([48]:List UInt8) (0:Int) μ46)) (
 opt (Hz ρ (IntKind.wrap .i64 (x6-(List.length s36:Int))) s44 s49 o0_0 o0_1 μ46) (kS ρ H25 [] [(2,0),(3,0)]))) (pX q7)) (pX q7))) (pX q7):=by kernel_rfl
theorem sC (x3 o0_0 o0_1 μ):kS ρ H25 [] [(2,0),(3,0)] (mF x3 o0_0 o0_1 μ)=
 some (nY x3 o0_0 o0_1 μ):=by kernel_rfl
theorem Ni (x0 o0_0 o0_1 μ):(Hi x0 o0_0 o0_1).sK ρ μ=
 callK (ρ.call 60 [LV.str x0, LV.str ([69, 68] : List UInt8)] μ) (fun v11 μ12 =>
 opt (aE .i64 v11) fun n15=>
 cond (decide ((0 : Int) ≤ n15)) (
 opt (bJ x0 (IntKind.wrap .i64 (n15+(1:Int))) (List.length x0:Int)) fun s16=>
 callK (ρ.call 45 [LV.str s16] μ12) (fun v17 μ18 =>
 opt (aR v17) fun xs21=>
 opt (aA xs21) fun q22=>
 opt (aE .i64 q22.1) fun n23=>
 opt (aA q22.2) fun q24=>
 opt (de q24.1) fun c25=>
 opt (aM q24.2) fun u26=>
 opt (bJ x0 (0:Int) n15) fun s27=>
 opt (pZ ρ s27 n23 o0_0 o0_1 μ18) (kS ρ H25 [] [(2,0),(3,0)])) (pX sX)) (
 opt (pZ ρ x0 (0:Int) o0_0 o0_1 μ12) (kS ρ H25 [] [(2,0),(3,0)]))) (pX sX):=by kernel_rfl
theorem F0 (x3 o0_0 o0_1 μ):kS ρ H25 [] [(2,0),(3,0)] (nY x3 o0_0 o0_1 μ)=
 some (l7 x3 o0_0 o0_1 μ):=by kernel_rfl
theorem Dh (x0 x4 o0_0 o0_1 μ):(HK x0 x4 o0_0 o0_1).sK ρ μ=
 cond (decide (x4 = (0 : Int))) (
 some (l7 (0:Int) x0 (0:Int) μ)) (
 opt (Mm ρ x0 o0_0 o0_1 μ) (kS ρ H25 [] [(2,0),(3,0)])):=by kernel_rfl
theorem u2 (x3 o0_0 o0_1 μ):kB ρ 25 H25 [] (l7 x3 o0_0 o0_1 μ)=
 some (.ret (LV.ltup [LV.cv (CV.agg [CV.str o0_0,CV.int .i64 o0_1]),LV.int .i64 x3]) μ):=by kernel_rfl
theorem Kl (a μ):aG E ρ 25 [LV.str a] μ=
 callK (ρ.call 59 [LV.str a] μ) (fun v1 μ2 =>
 opt (aR v1) fun xs5=>
 opt (aA xs5) fun q6=>
 opt (aE .i64 q6.1) fun n7=>
 opt (aA q6.2) fun q8=>
 opt (aE .i64 q8.1) fun n9=>
 opt (aM q8.2) fun u10=>
 cond (!decide (n9 = (0 : Int))) (
 some (.ret (LV.ltup [LV.cv (CV.agg [CV.str ([]:List UInt8),CV.int .i64 (0:Int)]),LV.int .i64 n9]) μ2)) (
 opt (D8 ρ a n7 ([]:List UInt8) (0:Int) μ2) (kB ρ 25 H25 []))) pP:=by kernel_rfl
def GV (x0:Int)(o0_0:List UInt8)(o0_1:Int):SegD:=⟨H26,[(4,0),(5,0)],cA 26 [1,1],mS [(0,LV.int .i64 x0),(3,LV.loc 0 0)] [Ob.cells [LV.str o0_0,LV.int .i64 o0_1]]⟩
def Ge (x0:Int)(o0_0:List UInt8)(o0_1:Int)(μ:Mu):=(GV x0 o0_0 o0_1).seg ρ μ
def lN (x4:List UInt8)(x5:Int)(μ:Mu):St:= .ret (mS [(4,LV.str x4),(5,LV.int .i64 x5)] []) μ
def Ho (x0:Int)(o0_0:List UInt8)(o0_1:Int):SegD:=⟨H26,[(4,0),(5,0)],cA 26 [1,1,1],mS [(0,LV.int .i64 x0),(3,LV.loc 0 0)] [Ob.cells [LV.str o0_0,LV.int .i64 o0_1]]⟩
def Ez (x0:Int)(o0_0:List UInt8)(o0_1:Int)(μ:Mu):=(Ho x0 o0_0 o0_1).seg ρ μ
def l3 (x4:List UInt8)(x5:Int)(μ:Mu):St:= .ret (mS [(4,LV.str x4),(5,LV.int .i64 x5)] []) μ
def IU (x0:Int)(o0_0:List UInt8)(o0_1:Int):SegD:=⟨H26,[(4,0),(5,0)],cA 26 [1,1,1,1],mS [(0,LV.int .i64 x0),(3,LV.loc 0 0)] [Ob.cells [LV.str o0_0,LV.int .i64 o0_1]]⟩
def LP (x0:Int)(o0_0:List UInt8)(o0_1:Int)(μ:Mu):=(IU x0 o0_0 o0_1).seg ρ μ
def mh (x4:List UInt8)(x5:Int)(μ:Mu):St:= .ret (mS [(4,LV.str x4),(5,LV.int .i64 x5)] []) μ
def Dq (x0 x6:Int)(o0_0:List UInt8)(o0_1:Int):SegD:=⟨H26,[(4,0),(5,0)],cA 26 [1,1,1,1,1,1],mS [(0,LV.int .i64 x0),(3,LV.loc 0 0),(6,LV.int .i64 x6)] [Ob.cells [LV.str o0_0,LV.int .i64 o0_1]]⟩
def Ii (x0 x6:Int)(o0_0:List UInt8)(o0_1:Int)(μ:Mu):=(Dq x0 x6 o0_0 o0_1).seg ρ μ
def km (x4:List UInt8)(x5:Int)(μ:Mu):St:= .ret (mS [(4,LV.str x4),(5,LV.int .i64 x5)] []) μ
def wR (pv:CV)(μ:Mu):St:= .panic pv (mS [] []) μ
def Lu (pv:CV)(μ:Mu):St:= .panic pv (mS [] []) μ
theorem Lk (x0 x6 o0_0 o0_1 μ):(Dq x0 x6 o0_0 o0_1).sK ρ μ=
 opt (bJ o0_0 (0:Int) (1:Int)) fun s6=>
 az (a6 (List.length s6 + List.length ([46] : List UInt8))) (
 opt (bJ o0_0 (1:Int) (List.length o0_0:Int)) fun s7=>
 callK (ρ.call 65 [LV.str s7, LV.bool false] μ) (fun v8 μ9 =>
 opt (aI v8) fun s12=>
 az (a6 (List.length (s6 ++ ([46] : List UInt8)) + List.length s12)) (
 cond (decide (x0 = (2 : Int))) (
 callK (ρ.call 66 [LV.int .i64 x6] μ9) (fun v13 μ14 =>
 opt (aI v13) fun s17=>
 az (a6 (List.length ([68] : List UInt8) + List.length s17)) (
 az (a6 (List.length ((s6 ++ ([46] : List UInt8)) ++ s12) + List.length (([68] : List UInt8) ++ s17))) (
 some (km (((s6++([46]:List UInt8))++s12)++(([68]:List UInt8)++s17)) (0:Int) μ14)))) (pX wR)) (
 cond (!decide (x6 = (0 : Int))) (
 callK (ρ.call 66 [LV.int .i64 x6] μ9) (fun v18 μ19 =>
 opt (aI v18) fun s22=>
 az (a6 (List.length ([69] : List UInt8) + List.length s22)) (
 az (a6 (List.length ((s6 ++ ([46] : List UInt8)) ++ s12) + List.length (([69] : List UInt8) ++ s22))) (
 some (km (((s6++([46]:List UInt8))++s12)++(([69]:List UInt8)++s22)) (0:Int) μ19)))) (pX wR)) (
 some (km ((s6++([46]:List UInt8))++s12) (0:Int) μ9))))) pN):=by kernel_rfl
theorem Be (x4 x5 μ):kS ρ H26 [] [(4,0),(5,0)] (km x4 x5 μ)=
 some (mh x4 x5 μ):=by kernel_rfl
theorem MZ (x0 o0_0 o0_1 μ):(IU x0 o0_0 o0_1).sK ρ μ=
 cond (decide (IntKind.wrap .i64 (IntKind.wrap .i64 (o0_1 + (List.length o0_0 : Int)) - (1 : Int)) < (-999 : Int))) (
 some (mh ([]:List UInt8) (2:Int) μ)) (
 cond (decide ((999 : Int) < IntKind.wrap .i64 (IntKind.wrap .i64 (o0_1 + (List.length o0_0 : Int)) - (1 : Int)))) (
 some (mh ([]:List UInt8) (2:Int) μ)) (
 opt (Ii ρ x0 (IntKind.wrap .i64 (IntKind.wrap .i64 (o0_1+(List.length o0_0:Int)) -(1:Int))) o0_0 o0_1 μ) (kS ρ H26 [] [(4,0),(5,0)]))):=by kernel_rfl
theorem Fw (x4 x5 μ):kS ρ H26 [] [(4,0),(5,0)] (mh x4 x5 μ)=
 some (l3 x4 x5 μ):=by kernel_rfl
theorem MN (x0 o0_0 o0_1 μ):(Ho x0 o0_0 o0_1).sK ρ μ=
 cond (decide (o0_1 < (-1998 : Int))) (
 some (l3 ([]:List UInt8) (2:Int) μ)) (
 cond (decide ((999 : Int) < o0_1)) (
 some (l3 ([]:List UInt8) (2:Int) μ)) (
 opt (LP ρ x0 o0_0 o0_1 μ) (kS ρ H26 [] [(4,0),(5,0)]))):=by kernel_rfl
theorem Fa (x4 x5 μ):kS ρ H26 [] [(4,0),(5,0)] (l3 x4 x5 μ)=
 some (lN x4 x5 μ):=by kernel_rfl
theorem MC (x0 o0_0 o0_1 μ):(GV x0 o0_0 o0_1).sK ρ μ=
 callK (ρ.call 64 [LV.str o0_0] μ) (fun v1 μ2 =>
 opt (aN v1) fun b5=>
 cond (!b5) (
 some (lN ([]:List UInt8) (3:Int) μ2)) (
 cond (decide (o0_0 = ([48] : List UInt8))) (
 cond (!decide (o0_1 = (0 : Int))) (
 some (lN ([]:List UInt8) (3:Int) μ2)) (
 opt (Ez ρ x0 o0_0 o0_1 μ2) (kS ρ H26 [] [(4,0),(5,0)]))) (
 opt (Ez ρ x0 o0_0 o0_1 μ2) (kS ρ H26 [] [(4,0),(5,0)])))) (pX Lu):=by kernel_rfl
theorem vu (x4 x5 μ):kB ρ 26 H26 [] (lN x4 x5 μ)=
 some (.ret (LV.ltup [LV.str x4,LV.int .i64 x5]) μ):=by kernel_rfl
theorem Oi (a b_0 b_1 μ):aG E ρ 26 [LV.int .i64 a,LV.cv (CV.agg [CV.str b_0,CV.int .i64 b_1])] μ=
 cond (!decide (a = (1 : Int))) (
 cond (!decide (a = (2 : Int))) (
 some (.ret (LV.ltup [LV.str ([]:List UInt8),LV.int .i64 (15:Int)]) μ)) (
 opt (Ge ρ a b_0 b_1 μ) (kB ρ 26 H26 []))) (
 opt (Ge ρ a b_0 b_1 μ) (kB ρ 26 H26 [])):=by kernel_rfl
def GI (x0 o0_0:List UInt8)(o0_1:Int)(o1_0:List UInt8)(o1_1:Int):SegD:=⟨H27,[(2,0),(3,0)],cA 27 [1,1,1],mS [(0,LV.str x0),(2,LV.loc 0 0),(4,LV.loc 1 0)] [Ob.cells [LV.str o0_0,LV.int .i64 o0_1],Ob.cells [LV.str o1_0,LV.int .i64 o1_1]]⟩
def xL (x0 o0_0:List UInt8)(o0_1:Int)(o1_0:List UInt8)(o1_1:Int)(μ:Mu):=(GI x0 o0_0 o0_1 o1_0 o1_1).seg ρ μ
def jL (x3:Int)(o0_0:List UInt8)(o0_1:Int)(μ:Mu):St:= .ret (mS [(2,LV.loc 0 0),(3,LV.int .i64 x3)] [Ob.cells [LV.str o0_0,LV.int .i64 o0_1]]) μ
def HD (x0 o0_0:List UInt8)(o0_1:Int)(o1_0:List UInt8)(o1_1:Int):SegD:=⟨H27,[(2,0),(3,0)],cA 27 [1,1,1,1],mS [(0,LV.str x0),(2,LV.loc 0 0),(4,LV.loc 1 0)] [Ob.cells [LV.str o0_0,LV.int .i64 o0_1],Ob.cells [LV.str o1_0,LV.int .i64 o1_1]]⟩
def Gn (x0 o0_0:List UInt8)(o0_1:Int)(o1_0:List UInt8)(o1_1:Int)(μ:Mu):=(HD x0 o0_0 o0_1 o1_0 o1_1).seg ρ μ
def mj (x3:Int)(o0_0:List UInt8)(o0_1:Int)(μ:Mu):St:= .ret (mS [(2,LV.loc 0 0),(3,LV.int .i64 x3)] [Ob.cells [LV.str o0_0,LV.int .i64 o0_1]]) μ
def G8 (x0 o0_0:List UInt8)(o0_1:Int):SegD:=⟨H27,[(2,0),(3,0)],cA 27 [1,1,1,1,1],mS [(0,LV.str x0),(2,LV.loc 0 0)] [Ob.cells [LV.str o0_0,LV.int .i64 o0_1]]⟩
def ES (x0 o0_0:List UInt8)(o0_1:Int)(μ:Mu):=(G8 x0 o0_0 o0_1).seg ρ μ
def CE (x0 x5:List UInt8)(x6 x7 x8:Int)(o0_0:List UInt8)(o0_1:Int):SegD:=⟨H27,[(2,0),(5,0),(6,0),(7,0)],cA 27 [1,1,1,1,1,1,0,1,0,0],mS [(0,LV.str x0),(2,LV.loc 0 0),(5,LV.str x5),(6,LV.int .i64 x6),(7,LV.int .i64 x7),(8,LV.int .i64 x8)] [Ob.cells [LV.str o0_0,LV.int .i64 o0_1]]⟩
def iq (x0 x5:List UInt8)(x6 x7 x8:Int)(o0_0:List UInt8)(o0_1:Int)(μ:Mu):=(CE x0 x5 x6 x7 x8 o0_0 o0_1).loop ρ μ
def iJ (x5:List UInt8)(x6 x7:Int)(o0_0:List UInt8)(o0_1:Int)(μ:Mu):St:= .exit 0 (mS [(2,LV.loc 0 0),(5,LV.str x5),(6,LV.int .i64 x6),(7,LV.int .i64 x7)] [Ob.cells [LV.str o0_0,LV.int .i64 o0_1]]) μ
def wB (pv:CV)(μ:Mu):St:= .panic pv (mS [] []) μ
def DD (x5:List UInt8)(x6:Int)(o0_0:List UInt8)(o0_1:Int):SegD:=⟨H27,[(2,0),(5,0),(6,0)],cA 27 [1,1,1,1,1,1,1,1,1,0,0,0],mS [(2,LV.loc 0 0),(5,LV.str x5),(6,LV.int .i64 x6)] [Ob.cells [LV.str o0_0,LV.int .i64 o0_1]]⟩
def uP (x5:List UInt8)(x6:Int)(o0_0:List UInt8)(o0_1:Int)(μ:Mu):=(DD x5 x6 o0_0 o0_1).loop ρ μ
def kw (x5:List UInt8)(x6:Int)(o0_0:List UInt8)(o0_1:Int)(μ:Mu):St:= .exit 2 (mS [(2,LV.loc 0 0),(5,LV.str x5),(6,LV.int .i64 x6)] [Ob.cells [LV.str o0_0,LV.int .i64 o0_1]]) μ
def pb (x3:Int)(o0_0:List UInt8)(o0_1:Int)(μ:Mu):St:= .ret (mS [(2,LV.loc 0 0),(3,LV.int .i64 x3)] [Ob.cells [LV.str o0_0,LV.int .i64 o0_1]]) μ
def Kp (pv:CV)(μ:Mu):St:= .panic pv (mS [] []) μ
def za (pv:CV)(μ:Mu):St:= .panic pv (mS [] []) μ
def Lf (pv:CV)(μ:Mu):St:= .panic pv (mS [] []) μ
theorem pj (x0 x5 x6 x7 x8 o0_0 o0_1 μ):(CE x0 x5 x6 x7 x8 o0_0 o0_1).rK ρ μ=
 cond (decide (x8 < (List.length x0 : Int))) (
 opt (aX x0 x8) fun y21=>
 cond (decide ((y21.toNat : Int) = (46 : Int))) (
 iq ρ x0 x5 x6 x8 (IntKind.wrap .i64 (x8+(1:Int))) o0_0 o0_1 μ) (
 opt (aX x0 x8) fun y22=>
 callK (ρ.call 67 [LV.int .u8 (y22.toNat : Int)] μ) (fun v23 μ24 =>
 opt (aN v23) fun b27=>
 cond (b27) (
 opt (bJ x0 x8 (IntKind.wrap .i64 (x8+(1:Int)))) fun s28=>
 az (a6 (List.length x5 + List.length s28)) (
 iq ρ x0 (x5++s28) x6 x7 (IntKind.wrap .i64 (x8+(1:Int))) o0_0 o0_1 μ24)) (
 opt (bJ x0 (IntKind.wrap .i64 (x8+(1:Int))) (List.length x0:Int)) fun s29=>
 callK (ρ.call 68 [LV.str s29, LV.int .i64 (3 : Int)] μ24) (fun v30 μ31 =>
 opt (aR v30) fun xs34=>
 opt (aA xs34) fun q35=>
 opt (aE .i64 q35.1) fun n36=>
 opt (aA q35.2) fun q37=>
 opt (aN q37.1) fun b38=>
 opt (aM q37.2) fun u39=>
 some (iJ x5 n36 x7 o0_0 o0_1 μ31)) (pX wB))) (pX wB))) (
 some (iJ x5 x6 x7 o0_0 o0_1 μ)):=by kernel_rfl
theorem zI (x5 x6 o0_0 o0_1 μ):(DD x5 x6 o0_0 o0_1).rK ρ μ=
 cond (!decide (x5 = ([48] : List UInt8))) (
 opt (aX x5 (IntKind.wrap .i64 ((List.length x5:Int) -(1:Int)))) fun y45=>
 cond (decide ((y45.toNat : Int) = (48 : Int))) (
 opt (bJ x5 (0:Int) (IntKind.wrap .i64 ((List.length x5:Int) -(1:Int)))) fun s46=>
 uP ρ s46 (IntKind.wrap .i64 (x6+(1:Int))) o0_0 o0_1 μ) (
 some (kw x5 x6 o0_0 o0_1 μ))) (
 some (kw x5 x6 o0_0 o0_1 μ)):=by kernel_rfl
theorem sM (x5 x6 o0_0 o0_1 μ):kS ρ H27 [.block 2,.seq (cA 27 [1,1,1,1,1,1,1,1,1,1])] [(2,0),(3,0)] (kw x5 x6 o0_0 o0_1 μ)=
 cond (decide (x5 = ([48] : List UInt8))) (
 some (pb (0:Int) x5 (0:Int) μ)) (
 some (pb (0:Int) x5 x6 μ)):=by kernel_rfl
theorem A0 (x5 x6 x7 o0_0 o0_1 μ):kS ρ H27 [.block 0,.seq (cA 27 [1,1,1,1,1,1,1])] [(2,0),(3,0)] (iJ x5 x6 x7 o0_0 o0_1 μ)=
 callK (ρ.call 69 [LV.str x5] μ) (fun v40 μ41 =>
 opt (aI v40) fun s44=>
 opt (uP ρ s44 (IntKind.wrap .i64 (x6-IntKind.wrap .i64 ((List.length x5:Int) -x7))) o0_0 o0_1 μ41) (kS ρ H27 [.block 2,.seq (cA 27 [1,1,1,1,1,1,1,1,1,1])] [(2,0),(3,0)])) (pX Kp):=by kernel_rfl
theorem NI (x0 o0_0 o0_1 μ):(G8 x0 o0_0 o0_1).sK ρ μ=
 opt (iq ρ x0 ([]:List UInt8) (0:Int) (0:Int) (0:Int) o0_0 o0_1 μ) (kS ρ H27 [.block 0,.seq (cA 27 [1,1,1,1,1,1,1])] [(2,0),(3,0)]):=by kernel_rfl
theorem Gi (x3 o0_0 o0_1 μ):kS ρ H27 [] [(2,0),(3,0)] (pb x3 o0_0 o0_1 μ)=
 some (mj x3 o0_0 o0_1 μ):=by kernel_rfl
theorem CT (x0 o0_0 o0_1 o1_0 o1_1 μ):(HD x0 o0_0 o0_1 o1_0 o1_1).sK ρ μ=
 callK (ρ.call 13 [LV.int .i64 (1 : Int), LV.str x0] μ) (fun v11 μ12 =>
 opt (aE .i64 v11) fun n15=>
 cond (!decide (n15 = (0 : Int))) (
 callK (ρ.call 13 [LV.int .i64 (2 : Int), LV.str x0] μ12) (fun v16 μ17 =>
 opt (aE .i64 v16) fun n20=>
 cond (!decide (n20 = (0 : Int))) (
 some (mj (3:Int) o1_0 o1_1 μ17)) (
 opt (ES ρ x0 o0_0 o0_1 μ17) (kS ρ H27 [] [(2,0),(3,0)]))) (pX za)) (
 opt (ES ρ x0 o0_0 o0_1 μ12) (kS ρ H27 [] [(2,0),(3,0)]))) (pX za):=by kernel_rfl
theorem uu (x3 o0_0 o0_1 μ):kS ρ H27 [] [(2,0),(3,0)] (mj x3 o0_0 o0_1 μ)=
 some (jL x3 o0_0 o0_1 μ):=by kernel_rfl
theorem vw (x0 o0_0 o0_1 o1_0 o1_1 μ):(GI x0 o0_0 o0_1 o1_0 o1_1).sK ρ μ=
 callK (ρ.call 13 [LV.int .i64 (0 : Int), LV.str x0] μ) (fun v6 μ7 =>
 opt (aE .i64 v6) fun n10=>
 cond (decide (n10 = (0 : Int))) (
 some (jL (0:Int) x0 (0:Int) μ7)) (
 opt (Gn ρ x0 o0_0 o0_1 o1_0 o1_1 μ7) (kS ρ H27 [] [(2,0),(3,0)]))) (pX Lf):=by kernel_rfl
theorem pe (x3 o0_0 o0_1 μ):kB ρ 27 H27 [] (jL x3 o0_0 o0_1 μ)=
 some (.ret (LV.ltup [LV.cv (CV.agg [CV.str o0_0,CV.int .i64 o0_1]),LV.int .i64 x3]) μ):=by kernel_rfl
theorem LA (a μ):aG E ρ 27 [LV.str a] μ=
 callK (ρ.call 13 [LV.int .i64 (0 : Int), LV.str a] μ) (fun v1 μ2 =>
 opt (aE .i64 v1) fun n5=>
 cond (decide (n5 = (28 : Int))) (
 some (.ret (LV.ltup [LV.cv (CV.agg [CV.str ([]:List UInt8),CV.int .i64 (0:Int)]),LV.int .i64 (28:Int)]) μ2)) (
 opt (xL ρ a ([]:List UInt8) (0:Int) ([]:List UInt8) (0:Int) μ2) (kB ρ 27 H27 []))) pP:=by kernel_rfl
def GQ (x0:Int)(o0_0:List UInt8)(o0_1:Int):SegD:=⟨H28,[(4,0),(5,0)],cA 28 [1,1],mS [(0,LV.int .i64 x0),(3,LV.loc 0 0)] [Ob.cells [LV.str o0_0,LV.int .i64 o0_1]]⟩
def Fd (x0:Int)(o0_0:List UInt8)(o0_1:Int)(μ:Mu):=(GQ x0 o0_0 o0_1).seg ρ μ
def dE (x4:List UInt8)(x5:Int)(μ:Mu):St:= .ret (mS [(4,LV.str x4),(5,LV.int .i64 x5)] []) μ
def Hs (x0 x6:Int)(o0_0:List UInt8)(o0_1:Int):SegD:=⟨H28,[(4,0),(5,0)],cA 28 [1,1,1,1],mS [(0,LV.int .i64 x0),(3,LV.loc 0 0),(6,LV.int .i64 x6)] [Ob.cells [LV.str o0_0,LV.int .i64 o0_1]]⟩
def oo (x0 x6:Int)(o0_0:List UInt8)(o0_1:Int)(μ:Mu):=(Hs x0 x6 o0_0 o0_1).seg ρ μ
def lF (x4:List UInt8)(x5:Int)(μ:Mu):St:= .ret (mS [(4,LV.str x4),(5,LV.int .i64 x5)] []) μ
def HH (x0 x6:Int)(o0_0:List UInt8)(o0_1:Int):SegD:=⟨H28,[(4,0),(5,0)],cA 28 [1,1,1,1,1],mS [(0,LV.int .i64 x0),(3,LV.loc 0 0),(6,LV.int .i64 x6)] [Ob.cells [LV.str o0_0,LV.int .i64 o0_1]]⟩
def Md (x0 x6:Int)(o0_0:List UInt8)(o0_1:Int)(μ:Mu):=(HH x0 x6 o0_0 o0_1).seg ρ μ
def oC (x4:List UInt8)(x5:Int)(μ:Mu):St:= .ret (mS [(4,LV.str x4),(5,LV.int .i64 x5)] []) μ
def Ks (pv:CV)(μ:Mu):St:= .panic pv (mS [] []) μ
def DQ (x7:Int)(x8:List UInt8):SegD:=⟨H28,[(4,0),(5,0)],cA 28 [1,1,1,1,1,1,1,1],mS [(7,LV.int .i64 x7),(8,LV.str x8)] []⟩
def zE (x7:Int)(x8:List UInt8)(μ:Mu):=(DQ x7 x8).seg ρ μ
def kc (x4:List UInt8)(x5:Int)(μ:Mu):St:= .ret (mS [(4,LV.str x4),(5,LV.int .i64 x5)] []) μ
def HG (pv:CV)(μ:Mu):St:= .panic pv (mS [] []) μ
def AL (pv:CV)(μ:Mu):St:= .panic pv (mS [] []) μ
def zR (pv:CV)(μ:Mu):St:= .panic pv (mS [] []) μ
theorem yd (x7 x8 μ):(DQ x7 x8).sK ρ μ=
 cond (!decide (x7 = (0 : Int))) (
 az (a6 (List.length x8 + List.length ([69] : List UInt8))) (
 callK (ρ.call 71 [LV.int .i64 x7] μ) (fun v35 μ36 =>
 opt (aI v35) fun s39=>
 az (a6 (List.length (x8 ++ ([69] : List UInt8)) + List.length s39)) (
 some (kc ((x8++([69]:List UInt8))++s39) (0:Int) μ36))) (pX HG))) (
 some (kc x8 (0:Int) μ)):=by kernel_rfl
theorem sw (x4 x5 μ):kS ρ H28 [] [(4,0),(5,0)] (kc x4 x5 μ)=
 some (oC x4 x5 μ):=by kernel_rfl
theorem ND (x0 x6 o0_0 o0_1 μ):(HH x0 x6 o0_0 o0_1).sK ρ μ=
 opt (bJ o0_0 (0:Int) (1:Int)) fun s23=>
 az (a6 (List.length s23 + List.length ([46] : List UInt8))) (
 opt (bJ o0_0 (1:Int) (List.length o0_0:Int)) fun s24=>
 callK (ρ.call 70 [LV.str s24] μ) (fun v25 μ26 =>
 opt (aI v25) fun s29=>
 az (a6 (List.length (s23 ++ ([46] : List UInt8)) + List.length s29)) (
 cond (decide (x0 = (2 : Int))) (
 az (a6 (List.length ((s23 ++ ([46] : List UInt8)) ++ s29) + List.length ([68] : List UInt8))) (
 callK (ρ.call 71 [LV.int .i64 (IntKind.wrap .i64 (IntKind.wrap .i64 (o0_1 + x6) - (1 : Int)))] μ26) (fun v30 μ31 =>
 opt (aI v30) fun s34=>
 az (a6 (List.length (((s23 ++ ([46] : List UInt8)) ++ s29) ++ ([68] : List UInt8)) + List.length s34)) (
 some (oC ((((s23++([46]:List UInt8))++s29)++([68]:List UInt8))++s34) (0:Int) μ31))) (pX Ks))) (
 opt (zE ρ (IntKind.wrap .i64 (IntKind.wrap .i64 (o0_1+x6) -(1:Int))) ((s23++([46]:List UInt8))++s29) μ26) (kS ρ H28 [] [(4,0),(5,0)])))) pN):=by kernel_rfl
theorem FS (x4 x5 μ):kS ρ H28 [] [(4,0),(5,0)] (oC x4 x5 μ)=
 some (lF x4 x5 μ):=by kernel_rfl
theorem MM (x0 x6 o0_0 o0_1 μ):(Hs x0 x6 o0_0 o0_1).sK ρ μ=
 callK (ρ.call 23 [LV.int .i64 o0_1, LV.int .i64 (-2000 : Int), LV.int .i64 (2000 : Int)] μ) (fun v13 μ14 =>
 opt (aN v13) fun b17=>
 cond (!b17) (
 some (lF ([]:List UInt8) (2:Int) μ14)) (
 callK (ρ.call 23 [LV.int .i64 (IntKind.wrap .i64 (IntKind.wrap .i64 (o0_1 + x6) - (1 : Int))), LV.int .i64 (-999 : Int), LV.int .i64 (999 : Int)] μ14) (fun v18 μ19 =>
 opt (aN v18) fun b22=>
 cond (!b22) (
 some (lF ([]:List UInt8) (2:Int) μ19)) (
 opt (Md ρ x0 x6 o0_0 o0_1 μ19) (kS ρ H28 [] [(4,0),(5,0)]))) (pX AL))) (pX AL):=by kernel_rfl
theorem Gz (x4 x5 μ):kS ρ H28 [] [(4,0),(5,0)] (lF x4 x5 μ)=
 some (dE x4 x5 μ):=by kernel_rfl
theorem MT (x0 o0_0 o0_1 μ):(GQ x0 o0_0 o0_1).sK ρ μ=
 callK (ρ.call 23 [LV.int .i64 (List.length o0_0 : Int), LV.int .i64 (1 : Int), LV.int .i64 (30 : Int)] μ) (fun v1 μ2 =>
 opt (aN v1) fun b5=>
 cond (!b5) (
 some (dE ([]:List UInt8) (3:Int) μ2)) (
 callK (ρ.call 47 [LV.str o0_0, LV.int .i64 (0 : Int)] μ2) (fun v6 μ7 =>
 opt (aE .i64 v6) fun n10=>
 cond (!decide (n10 = (List.length o0_0 : Int))) (
 some (dE ([]:List UInt8) (3:Int) μ7)) (
 cond (decide ((1 : Int) < (List.length o0_0 : Int))) (
 opt (aX o0_0 (0:Int)) fun y11=>
 cond (decide ((y11.toNat : Int) = (48 : Int))) (
 some (dE ([]:List UInt8) (3:Int) μ7)) (
 opt (aX o0_0 (IntKind.wrap .i64 ((List.length o0_0:Int) -(1:Int)))) fun y12=>
 cond (decide ((y12.toNat : Int) = (48 : Int))) (
 some (dE ([]:List UInt8) (3:Int) μ7)) (
 cond (decide (o0_0 = ([48] : List UInt8))) (
 cond (!decide (o0_1 = (0 : Int))) (
 some (dE ([]:List UInt8) (3:Int) μ7)) (
 opt (oo ρ x0 (List.length o0_0:Int) o0_0 o0_1 μ7) (kS ρ H28 [] [(4,0),(5,0)]))) (
 opt (oo ρ x0 (List.length o0_0:Int) o0_0 o0_1 μ7) (kS ρ H28 [] [(4,0),(5,0)]))))) (
 cond (decide (o0_0 = ([48] : List UInt8))) (
 cond (!decide (o0_1 = (0 : Int))) (
 some (dE ([]:List UInt8) (3:Int) μ7)) (
 opt (oo ρ x0 (List.length o0_0:Int) o0_0 o0_1 μ7) (kS ρ H28 [] [(4,0),(5,0)]))) (
 opt (oo ρ x0 (List.length o0_0:Int) o0_0 o0_1 μ7) (kS ρ H28 [] [(4,0),(5,0)]))))) (pX zR))) (pX zR):=by kernel_rfl
theorem t6 (x4 x5 μ):kB ρ 28 H28 [] (dE x4 x5 μ)=
 some (.ret (LV.ltup [LV.str x4,LV.int .i64 x5]) μ):=by kernel_rfl
theorem Oz (a b_0 b_1 μ):aG E ρ 28 [LV.int .i64 a,LV.cv (CV.agg [CV.str b_0,CV.int .i64 b_1])] μ=
 cond (!decide (a = (1 : Int))) (
 cond (!decide (a = (2 : Int))) (
 some (.ret (LV.ltup [LV.str ([]:List UInt8),LV.int .i64 (15:Int)]) μ)) (
 opt (Fd ρ a b_0 b_1 μ) (kB ρ 28 H28 []))) (
 opt (Fd ρ a b_0 b_1 μ) (kB ρ 28 H28 [])):=by kernel_rfl
def JO (x0:List UInt8):SegD:=⟨H41,[(4,0)],cA 41 [1,1],mS [(0,LV.str x0)] []⟩
def L0 (x0:List UInt8)(μ:Mu):=(JO x0).seg ρ μ
def Ib (x0:List UInt8)(x5:Int):SegD:=⟨H41,[],cA 41 [1,1,0,1,0,0],mS [(0,LV.str x0),(5,LV.int .i64 x5)] []⟩
def Es (x0:List UInt8)(x5:Int)(μ:Mu):=(Ib x0 x5).loop ρ μ
def tJ (x4:Bool)(μ:Mu):St:= .ret (mS [(4,LV.bool x4)] []) μ
def Kw (pv:CV)(μ:Mu):St:= .panic pv (mS [] []) μ
def th (μ:Mu):St:= .exit 0 (mS [] []) μ
def oQ (x4:Bool)(μ:Mu):St:= .ret (mS [(4,LV.bool x4)] []) μ
theorem CY (x0 x5 μ):(Ib x0 x5).rK ρ μ=
 cond (decide (x5 < (List.length x0 : Int))) (
 opt (aX x0 x5) fun y1=>
 callK (ρ.call 23 [LV.int .i64 (IntKind.wrap .i64 (y1.toNat : Int)), LV.int .i64 (32 : Int), LV.int .i64 (126 : Int)] μ) (fun v2 μ3 =>
 opt (aN v2) fun b6=>
 cond (!b6) (
 some (tJ false μ3)) (
 Es ρ x0 (IntKind.wrap .i64 (x5+(1:Int))) μ3)) (pX Kw)) (
 some (th μ)):=by kernel_rfl
theorem EB (x4 μ):kS ρ H41 [.block 0,.seq (cA 41 [1,1,1])] [(4,0)] (tJ x4 μ)=
 some (oQ x4 μ):=by kernel_rfl
theorem En (μ):kS ρ H41 [.block 0,.seq (cA 41 [1,1,1])] [(4,0)] (th μ)=
 some (oQ true μ):=by kernel_rfl
theorem NV (x0 μ):(JO x0).sK ρ μ=
 opt (Es ρ x0 (0:Int) μ) (kS ρ H41 [.block 0,.seq (cA 41 [1,1,1])] [(4,0)]):=by kernel_rfl
theorem Gw (x4 μ):kB ρ 41 H41 [] (oQ x4 μ)=
 some (.ret (LV.bool x4) μ):=by kernel_rfl
theorem Rd (a b μ):aG E ρ 41 [LV.str a,LV.int .i64 b] μ=
 cond (decide (b < (List.length a : Int))) (
 some (.ret (LV.bool false) μ)) (
 opt (L0 ρ a μ) (kB ρ 41 H41 [])):=by kernel_rfl
def JG (x0 x3:List UInt8)(x4:Int):SegD:=⟨H42,[(3,0)],cA 42 [1,1,0,1,0,0],mS [(0,LV.str x0),(3,LV.str x3),(4,LV.int .i64 x4)] []⟩
def xP (x0 x3:List UInt8)(x4:Int)(μ:Mu):=(JG x0 x3 x4).loop ρ μ
def sZ (x3:List UInt8)(μ:Mu):St:= .exit 0 (mS [(3,LV.str x3)] []) μ
theorem Dw (x0 x3 x4 μ):(JG x0 x3 x4).rK ρ μ=
 cond (decide (x4 < (List.length x0 : Int))) (
 opt (bJ x0 x4 (IntKind.wrap .i64 (x4+(1:Int)))) fun s1=>
 az (a6 (List.length x3 + List.length s1)) (
 opt (aX x0 x4) fun y2=>
 cond (decide ((y2.toNat : Int) = (39 : Int))) (
 az (a6 (List.length (x3 ++ s1) + List.length ([39] : List UInt8))) (
 xP ρ x0 ((x3++s1)++([39]:List UInt8)) (IntKind.wrap .i64 (x4+(1:Int))) μ)) (
 xP ρ x0 (x3++s1) (IntKind.wrap .i64 (x4+(1:Int))) μ))) (
 some (sZ x3 μ)):=by kernel_rfl
theorem GA (x3 μ):kB ρ 42 H42 [.block 0,.seq (cA 42 [1,1,1])] (sZ x3 μ)=
 az (a6 (List.length x3 + List.length ([39] : List UInt8))) (
 some (.ret (LV.str (x3++([39]:List UInt8))) μ)):=by kernel_rfl
theorem QH (a μ):aG E ρ 42 [LV.str a] μ=
 opt (xP ρ a ([39]:List UInt8) (0:Int) μ) (kB ρ 42 H42 [.block 0,.seq (cA 42 [1,1,1])]):=by kernel_rfl
def Ir (x4:CV)(o0_0 o0_1:Int)(o0_2:List UInt8):SegD:=⟨H46,[(2,0),(3,0)],cA 46 [1,1,1],mS [(2,LV.loc 0 0),(4,LV.cv x4)] [Ob.cells [LV.int .i64 o0_0,LV.int .i64 o0_1,LV.str o0_2]]⟩
def L4 (x4:CV)(o0_0 o0_1:Int)(o0_2:List UInt8)(μ:Mu):=(Ir x4 o0_0 o0_1 o0_2).seg ρ μ
def tE (x3:Bool)(o0_0 o0_1:Int)(o0_2:List UInt8)(μ:Mu):St:= .ret (mS [(2,LV.loc 0 0),(3,LV.bool x3)] [Ob.cells [LV.int .i64 o0_0,LV.int .i64 o0_1,LV.str o0_2]]) μ
theorem NT (x4 o0_0 o0_1 o0_2 μ):(Ir x4 o0_0 o0_1 o0_2).sK ρ μ=
 opt (nf (LV.cv x4)) fun b13=>
 az (!b13) (
 opt (jB (LV.cv (rO x4))) fun cs14=>
 opt (aA cs14) fun q15=>
 opt (aI (LV.cv q15.1)) fun s16=>
 opt (aA q15.2) fun q17=>
 opt (aN (LV.cv q17.1)) fun b18=>
 opt (aA q17.2) fun q19=>
 opt (cM (LV.cv q19.1)) fun l20=>
 opt (aA q19.2) fun q21=>
 opt (cM (LV.cv q21.1)) fun l22=>
 opt (aM q21.2) fun u23=>
 opt (dZ l20 (0:Int)) fun c24=>
 fM (LV.cv c24) fun n25 n26 s27=>
 some (tE true n25 n26 s27 μ)):=by kernel_rfl
theorem Eu (x3 o0_0 o0_1 o0_2 μ):kB ρ 46 H46 [] (tE x3 o0_0 o0_1 o0_2 μ)=
 some (.ret (LV.ltup [LV.cv (CV.agg [CV.int .i64 o0_0,CV.int .i64 o0_1,CV.str o0_2]),LV.bool x3]) μ):=by kernel_rfl
theorem Qx (a μ):aG E ρ 46 [LV.str a] μ=
 callK (ρ.call 78 [LV.str a, LV.bool false] μ) (fun v1 μ2 =>
 opt (aR v1) fun xs5=>
 opt (aA xs5) fun q6=>
 opt (de q6.1) fun c7=>
 opt (aA q6.2) fun q8=>
 opt (aE .i64 q8.1) fun n9=>
 opt (aA q8.2) fun q10=>
 opt (aE .i64 q10.1) fun n11=>
 opt (aM q10.2) fun u12=>
 cond (!decide (n11 = (0 : Int))) (
 some (.ret (LV.ltup [LV.cv (CV.agg [CV.int .i64 (0:Int),CV.int .i64 (0:Int),CV.str ([]:List UInt8)]),LV.bool false]) μ2)) (
 cond (!decide (n9 = (1 : Int))) (
 some (.ret (LV.ltup [LV.cv (CV.agg [CV.int .i64 (0:Int),CV.int .i64 (0:Int),CV.str ([]:List UInt8)]),LV.bool false]) μ2)) (
 opt (L4 ρ c7 (0:Int) (0:Int) ([]:List UInt8) μ2) (kB ρ 46 H46 [])))) pP:=by kernel_rfl
def Im (x0:List UInt8)(x1 x5:Int):SegD:=⟨H47,[(5,0)],cA 47 [1,1,0,0,0],mS [(0,LV.str x0),(1,LV.int .i64 x1),(5,LV.int .i64 x5)] []⟩
def Gs (x0:List UInt8)(x1 x5:Int)(μ:Mu):=(Im x0 x1 x5).loop ρ μ
def ox (x5:Int)(μ:Mu):St:= .exit 0 (mS [(5,LV.int .i64 x5)] []) μ
def LB (pv:CV)(μ:Mu):St:= .panic pv (mS [] []) μ
theorem Do (x0 x1 x5 μ):(Im x0 x1 x5).rK ρ μ=
 cond (decide (IntKind.wrap .i64 (x1 + x5) < (List.length x0 : Int))) (
 opt (aX x0 (IntKind.wrap .i64 (x1+x5))) fun y1=>
 callK (ρ.call 67 [LV.int .u8 (y1.toNat : Int)] μ) (fun v2 μ3 =>
 opt (aN v2) fun b6=>
 cond (b6) (
 Gs ρ x0 x1 (IntKind.wrap .i64 (x5+(1:Int))) μ3) (
 some (ox x5 μ3))) (pX LB)) (
 some (ox x5 μ)):=by kernel_rfl
theorem Gv (x5 μ):kB ρ 47 H47 [.block 0,.seq (cA 47 [1,1,1])] (ox x5 μ)=
 some (.ret (LV.int .i64 x5) μ):=by kernel_rfl
theorem Rf (a b μ):aG E ρ 47 [LV.str a,LV.int .i64 b] μ=
 opt (Gs ρ a b (0:Int) μ) (kB ρ 47 H47 [.block 0,.seq (cA 47 [1,1,1])]):=by kernel_rfl
theorem Qs (a μ):aG E ρ 48 [LV.str a] μ=
 cond (decide ((1320 : Int) < (List.length a : Int))) (
 some (.ret (LV.int .i64 (8:Int)) μ)) (
 callK (ρ.call 41 [LV.str a, LV.int .i64 (1320 : Int)] μ) (fun v1 μ2 =>
 opt (aN v1) fun b5=>
 cond (!b5) (
 some (.ret (LV.int .i64 (3:Int)) μ2)) (
 some (.ret (LV.int .i64 (0:Int)) μ2))) pP):=by kernel_rfl
theorem QA (a b μ):aG E ρ 50 [LV.cv (CV.sl a),LV.str b] μ=
 callK (ρ.call 94 [LV.cv (CV.sl a), LV.str b] μ) (fun v1 μ2 =>
 opt (aE .i64 v1) fun n5=>
 some (.ret (LV.bool (decide ((0:Int)≤n5))) μ2)) pP:=by kernel_rfl
theorem QX (μ):aG E ρ 51 [] μ=
 some (.ret (LV.osl [CV.str ([46,76,84,46]:List UInt8),CV.str ([46,76,69,46]:List UInt8),CV.str ([46,69,81,46]:List UInt8),CV.str ([46,78,69,46]:List UInt8),CV.str ([46,71,69,46]:List UInt8),CV.str ([46,71,84,46]:List UInt8),CV.str ([46,78,79,84,46]:List UInt8),CV.str ([46,65,78,68,46]:List UInt8),CV.str ([46,79,82,46]:List UInt8),CV.str ([46,69,81,86,46]:List UInt8),CV.str ([46,78,69,81,86,46]:List UInt8)]) μ):=by kernel_rfl
theorem QY (μ):aG E ρ 52 [] μ=
 some (.ret (LV.osl [CV.str ([42,42]:List UInt8),CV.str ([47,47]:List UInt8),CV.str ([61,62]:List UInt8),CV.str ([42]:List UInt8),CV.str ([47]:List UInt8),CV.str ([43]:List UInt8),CV.str ([45]:List UInt8),CV.str ([40]:List UInt8),CV.str ([41]:List UInt8),CV.str ([44]:List UInt8),CV.str ([58]:List UInt8),CV.str ([61]:List UInt8),CV.str ([37]:List UInt8)]) μ):=by kernel_rfl
theorem QB (μ):aG E ρ 55 [] μ=
 some (.ret (LV.osl [CV.str ([46,76,84,46]:List UInt8),CV.str ([46,76,69,46]:List UInt8),CV.str ([46,69,81,46]:List UInt8),CV.str ([46,78,69,46]:List UInt8),CV.str ([46,71,69,46]:List UInt8),CV.str ([46,71,84,46]:List UInt8),CV.str ([46,78,79,84,46]:List UInt8),CV.str ([46,65,78,68,46]:List UInt8),CV.str ([46,79,82,46]:List UInt8),CV.str ([46,69,81,86,46]:List UInt8),CV.str ([46,78,69,81,86,46]:List UInt8)]) μ):=by kernel_rfl
theorem Qq (μ):aG E ρ 56 [] μ=
 some (.ret (LV.osl [CV.str ([42,42]:List UInt8),CV.str ([47,47]:List UInt8),CV.str ([61,62]:List UInt8),CV.str ([42]:List UInt8),CV.str ([47]:List UInt8),CV.str ([43]:List UInt8),CV.str ([45]:List UInt8),CV.str ([40]:List UInt8),CV.str ([41]:List UInt8),CV.str ([44]:List UInt8),CV.str ([58]:List UInt8),CV.str ([61]:List UInt8),CV.str ([37]:List UInt8)]) μ):=by kernel_rfl
def Jx (x0:List UInt8)(x1 x6 o0_0 o0_1:Int)(o0_2:List UInt8)(o0_3 o0_4:Int):SegD:=⟨H58,[(0,0),(1,0),(4,0),(6,0)],cA 58 [1,1,0,0,1,0,1,0,0,0],mS [(0,LV.str x0),(1,LV.int .i64 x1),(4,LV.loc 0 0),(6,LV.int .i64 x6)] [Ob.cells [LV.int .i64 o0_0,LV.int .i64 o0_1,LV.str o0_2,LV.int .i64 o0_3,LV.int .i64 o0_4]]⟩
def rW (x0:List UInt8)(x1 x6 o0_0 o0_1:Int)(o0_2:List UInt8)(o0_3 o0_4:Int)(μ:Mu):=(Jx x0 x1 x6 o0_0 o0_1 o0_2 o0_3 o0_4).loop ρ μ
def mi (x0:List UInt8)(x1 x6 o0_0 o0_1:Int)(o0_2:List UInt8)(o0_3 o0_4:Int)(μ:Mu):St:= .exit 1 (mS [(0,LV.str x0),(1,LV.int .i64 x1),(4,LV.loc 0 0),(6,LV.int .i64 x6)] [Ob.cells [LV.int .i64 o0_0,LV.int .i64 o0_1,LV.str o0_2,LV.int .i64 o0_3,LV.int .i64 o0_4]]) μ
def Ah (pv:CV)(μ:Mu):St:= .panic pv (mS [] []) μ
def JJ (x0:List UInt8)(x1 x6 o0_0 o0_1:Int)(o0_2:List UInt8)(o0_3 o0_4:Int):SegD:=⟨H58,[(0,0),(1,0),(4,0)],cA 58 [1,1,0,0,1,0,1,1,1],mS [(0,LV.str x0),(1,LV.int .i64 x1),(4,LV.loc 0 0),(6,LV.int .i64 x6)] [Ob.cells [LV.int .i64 o0_0,LV.int .i64 o0_1,LV.str o0_2,LV.int .i64 o0_3,LV.int .i64 o0_4]]⟩
def Ml (x0:List UInt8)(x1 x6 o0_0 o0_1:Int)(o0_2:List UInt8)(o0_3 o0_4:Int)(μ:Mu):=(JJ x0 x1 x6 o0_0 o0_1 o0_2 o0_3 o0_4).seg ρ μ
def tB (o0_0 o0_1:Int)(o0_2:List UInt8)(o0_3 o0_4:Int)(μ:Mu):St:= .ret (mS [(4,LV.loc 0 0)] [Ob.cells [LV.int .i64 o0_0,LV.int .i64 o0_1,LV.str o0_2,LV.int .i64 o0_3,LV.int .i64 o0_4]]) μ
def Kf (pv:CV)(μ:Mu):St:= .panic pv (mS [] []) μ
def C4 (x0:List UInt8)(x1 x5:Int)(x60:Bool)(o0_0 o0_1:Int)(o0_2:List UInt8)(o0_3 o0_4:Int):SegD:=⟨H58,[(0,0),(1,0),(4,0)],cA 58 [1,1,0,0,1,1,1],mS [(0,LV.str x0),(1,LV.int .i64 x1),(4,LV.loc 0 0),(5,LV.int .u8 x5),(60,LV.bool x60)] [Ob.cells [LV.int .i64 o0_0,LV.int .i64 o0_1,LV.str o0_2,LV.int .i64 o0_3,LV.int .i64 o0_4]]⟩
def nD (x0:List UInt8)(x1 x5:Int)(x60:Bool)(o0_0 o0_1:Int)(o0_2:List UInt8)(o0_3 o0_4:Int)(μ:Mu):=(C4 x0 x1 x5 x60 o0_0 o0_1 o0_2 o0_3 o0_4).seg ρ μ
def da (o0_0 o0_1:Int)(o0_2:List UInt8)(o0_3 o0_4:Int)(μ:Mu):St:= .ret (mS [(4,LV.loc 0 0)] [Ob.cells [LV.int .i64 o0_0,LV.int .i64 o0_1,LV.str o0_2,LV.int .i64 o0_3,LV.int .i64 o0_4]]) μ
def mB (pv:CV)(μ:Mu):St:= .panic pv (mS [] []) μ
def Cx (x0:List UInt8)(x1:Int)(x85:List CV)(x86 x87 o0_0 o0_1:Int)(o0_2:List UInt8)(o0_3 o0_4:Int):SegD:=⟨H58,[(0,0),(1,0),(4,0)],cA 58 [1,1,0,0,1,1,1,1,1,0,0,1,0,0],mS [(0,LV.str x0),(1,LV.int .i64 x1),(4,LV.loc 0 0),(85,LV.cv (CV.sl x85)),(86,LV.int .i64 x86),(87,LV.int .i64 x87)] [Ob.cells [LV.int .i64 o0_0,LV.int .i64 o0_1,LV.str o0_2,LV.int .i64 o0_3,LV.int .i64 o0_4]]⟩
def zi (x0:List UInt8)(x1:Int)(x85:List CV)(x86 x87 o0_0 o0_1:Int)(o0_2:List UInt8)(o0_3 o0_4:Int)(μ:Mu):=(Cx x0 x1 x85 x86 x87 o0_0 o0_1 o0_2 o0_3 o0_4).loop ρ μ
def ri (o0_0 o0_1:Int)(o0_2:List UInt8)(o0_3 o0_4:Int)(μ:Mu):St:= .ret (mS [(4,LV.loc 0 0)] [Ob.cells [LV.int .i64 o0_0,LV.int .i64 o0_1,LV.str o0_2,LV.int .i64 o0_3,LV.int .i64 o0_4]]) μ
def He (pv:CV)(μ:Mu):St:= .panic pv (mS [] []) μ
def qD (x0:List UInt8)(x1 o0_0 o0_1:Int)(o0_2:List UInt8)(o0_3 o0_4:Int)(μ:Mu):St:= .exit 3 (mS [(0,LV.str x0),(1,LV.int .i64 x1),(4,LV.loc 0 0)] [Ob.cells [LV.int .i64 o0_0,LV.int .i64 o0_1,LV.str o0_2,LV.int .i64 o0_3,LV.int .i64 o0_4]]) μ
def DW (x0:List UInt8)(x1:Int)(x103:List CV)(x104 x105 o0_0 o0_1:Int)(o0_2:List UInt8)(o0_3 o0_4:Int):SegD:=⟨H58,[(4,0)],cA 58 [1,1,0,0,1,1,1,1,1,0,1,0,1,0,0],mS [(0,LV.str x0),(1,LV.int .i64 x1),(4,LV.loc 0 0),(103,LV.cv (CV.sl x103)),(104,LV.int .i64 x104),(105,LV.int .i64 x105)] [Ob.cells [LV.int .i64 o0_0,LV.int .i64 o0_1,LV.str o0_2,LV.int .i64 o0_3,LV.int .i64 o0_4]]⟩
def yU (x0:List UInt8)(x1:Int)(x103:List CV)(x104 x105 o0_0 o0_1:Int)(o0_2:List UInt8)(o0_3 o0_4:Int)(μ:Mu):=(DW x0 x1 x103 x104 x105 o0_0 o0_1 o0_2 o0_3 o0_4).loop ρ μ
def qF (o0_0 o0_1:Int)(o0_2:List UInt8)(o0_3 o0_4:Int)(μ:Mu):St:= .ret (mS [(4,LV.loc 0 0)] [Ob.cells [LV.int .i64 o0_0,LV.int .i64 o0_1,LV.str o0_2,LV.int .i64 o0_3,LV.int .i64 o0_4]]) μ
def HL (pv:CV)(μ:Mu):St:= .panic pv (mS [] []) μ
def qu (o0_0 o0_1:Int)(o0_2:List UInt8)(o0_3 o0_4:Int)(μ:Mu):St:= .exit 5 (mS [(4,LV.loc 0 0)] [Ob.cells [LV.int .i64 o0_0,LV.int .i64 o0_1,LV.str o0_2,LV.int .i64 o0_3,LV.int .i64 o0_4]]) μ
def rl (x0:List UInt8)(x1 o0_0 o0_1:Int)(o0_2:List UInt8)(o0_3 o0_4:Int)(μ:Mu):St:= .norm (mS [(0,LV.str x0),(1,LV.int .i64 x1),(4,LV.loc 0 0)] [Ob.cells [LV.int .i64 o0_0,LV.int .i64 o0_1,LV.str o0_2,LV.int .i64 o0_3,LV.int .i64 o0_4]]) μ
def C6 (x0:List UInt8)(x1 o0_0 o0_1:Int)(o0_2:List UInt8)(o0_3 o0_4:Int):SegD:=⟨H58,[(4,0)],cA 58 [1,1,1],mS [(0,LV.str x0),(1,LV.int .i64 x1),(4,LV.loc 0 0)] [Ob.cells [LV.int .i64 o0_0,LV.int .i64 o0_1,LV.str o0_2,LV.int .i64 o0_3,LV.int .i64 o0_4]]⟩
def IS (x0:List UInt8)(x1 o0_0 o0_1:Int)(o0_2:List UInt8)(o0_3 o0_4:Int)(μ:Mu):=(C6 x0 x1 o0_0 o0_1 o0_2 o0_3 o0_4).seg ρ μ
def CB (x0:List UInt8)(x1:Int)(x133:List CV)(x134 x135 o0_0 o0_1:Int)(o0_2:List UInt8)(o0_3 o0_4 o1_0 o1_1:Int)(o1_2:List UInt8)(o1_3 o1_4:Int):SegD:=⟨H58,[(0,0),(1,0),(4,0),(11,0)],cA 58 [1,1,1,1,0,1,0,0],mS [(0,LV.str x0),(1,LV.int .i64 x1),(4,LV.loc 0 0),(11,LV.loc 1 0),(133,LV.cv (CV.sl x133)),(134,LV.int .i64 x134),(135,LV.int .i64 x135)] [Ob.cells [LV.int .i64 o0_0,LV.int .i64 o0_1,LV.str o0_2,LV.int .i64 o0_3,LV.int .i64 o0_4],Ob.cells [LV.int .i64 o1_0,LV.int .i64 o1_1,LV.str o1_2,LV.int .i64 o1_3,LV.int .i64 o1_4]]⟩
def pU (x0:List UInt8)(x1:Int)(x133:List CV)(x134 x135 o0_0 o0_1:Int)(o0_2:List UInt8)(o0_3 o0_4 o1_0 o1_1:Int)(o1_2:List UInt8)(o1_3 o1_4:Int)(μ:Mu):=(CB x0 x1 x133 x134 x135 o0_0 o0_1 o0_2 o0_3 o0_4 o1_0 o1_1 o1_2 o1_3 o1_4).loop ρ μ
def Jl (pv:CV)(μ:Mu):St:= .panic pv (mS [] []) μ
def q5 (x0:List UInt8)(x1 o0_0 o0_1:Int)(o0_2:List UInt8)(o0_3 o0_4 o1_0 o1_1:Int)(o1_2:List UInt8)(o1_3 o1_4:Int)(μ:Mu):St:= .exit 7 (mS [(0,LV.str x0),(1,LV.int .i64 x1),(4,LV.loc 0 0),(11,LV.loc 1 0)] [Ob.cells [LV.int .i64 o0_0,LV.int .i64 o0_1,LV.str o0_2,LV.int .i64 o0_3,LV.int .i64 o0_4],Ob.cells [LV.int .i64 o1_0,LV.int .i64 o1_1,LV.str o1_2,LV.int .i64 o1_3,LV.int .i64 o1_4]]) μ
def xl (pv:CV)(μ:Mu):St:= .panic pv (mS [] []) μ
def DP (x0:List UInt8)(x1:Int)(x164:List CV)(x165 x166 o0_0 o0_1:Int)(o0_2:List UInt8)(o0_3 o0_4 o1_0 o1_1:Int)(o1_2:List UInt8)(o1_3 o1_4:Int):SegD:=⟨H58,[(4,0),(11,0)],cA 58 [1,1,1,1,1,0,1,0,0],mS [(0,LV.str x0),(1,LV.int .i64 x1),(4,LV.loc 0 0),(11,LV.loc 1 0),(164,LV.cv (CV.sl x164)),(165,LV.int .i64 x165),(166,LV.int .i64 x166)] [Ob.cells [LV.int .i64 o0_0,LV.int .i64 o0_1,LV.str o0_2,LV.int .i64 o0_3,LV.int .i64 o0_4],Ob.cells [LV.int .i64 o1_0,LV.int .i64 o1_1,LV.str o1_2,LV.int .i64 o1_3,LV.int .i64 o1_4]]⟩
def ni (x0:List UInt8)(x1:Int)(x164:List CV)(x165 x166 o0_0 o0_1:Int)(o0_2:List UInt8)(o0_3 o0_4 o1_0 o1_1:Int)(o1_2:List UInt8)(o1_3 o1_4:Int)(μ:Mu):=(DP x0 x1 x164 x165 x166 o0_0 o0_1 o0_2 o0_3 o0_4 o1_0 o1_1 o1_2 o1_3 o1_4).loop ρ μ
def Ie (pv:CV)(μ:Mu):St:= .panic pv (mS [] []) μ
def kE (o0_0 o0_1:Int)(o0_2:List UInt8)(o0_3 o0_4 o1_0 o1_1:Int)(o1_2:List UInt8)(o1_3 o1_4:Int)(μ:Mu):St:= .exit 9 (mS [(4,LV.loc 0 0),(11,LV.loc 1 0)] [Ob.cells [LV.int .i64 o0_0,LV.int .i64 o0_1,LV.str o0_2,LV.int .i64 o0_3,LV.int .i64 o0_4],Ob.cells [LV.int .i64 o1_0,LV.int .i64 o1_1,LV.str o1_2,LV.int .i64 o1_3,LV.int .i64 o1_4]]) μ
def mR (o0_0 o0_1:Int)(o0_2:List UInt8)(o0_3 o0_4:Int)(μ:Mu):St:= .ret (mS [(4,LV.loc 0 0)] [Ob.cells [LV.int .i64 o0_0,LV.int .i64 o0_1,LV.str o0_2,LV.int .i64 o0_3,LV.int .i64 o0_4]]) μ
theorem CO (x0 x1 x6 o0_0 o0_1 o0_2 o0_3 o0_4 μ):(Jx x0 x1 x6 o0_0 o0_1 o0_2 o0_3 o0_4).rK ρ μ=
 cond (decide (x6 < (List.length x0 : Int))) (
 opt (aX x0 x6) fun y7=>
 callK (ρ.call 96 [LV.int .u8 (y7.toNat : Int)] μ) (fun v8 μ9 =>
 opt (aN v8) fun b12=>
 cond (b12) (
 rW ρ x0 x1 (IntKind.wrap .i64 (x6+(1:Int))) o0_0 o0_1 o0_2 o0_3 o0_4 μ9) (
 opt (aX x0 x6) fun y13=>
 callK (ρ.call 67 [LV.int .u8 (y13.toNat : Int)] μ9) (fun v14 μ15 =>
 opt (aN v14) fun b18=>
 cond (b18) (
 rW ρ x0 x1 (IntKind.wrap .i64 (x6+(1:Int))) o0_0 o0_1 o0_2 o0_3 o0_4 μ15) (
 opt (aX x0 x6) fun y19=>
 cond (decide ((y19.toNat : Int) = (95 : Int))) (
 rW ρ x0 x1 (IntKind.wrap .i64 (x6+(1:Int))) o0_0 o0_1 o0_2 o0_3 o0_4 μ15) (
 some (mi x0 x1 x6 o0_0 o0_1 o0_2 o0_3 o0_4 μ15)))) (pX Ah))) (pX Ah)) (
 some (mi x0 x1 x6 o0_0 o0_1 o0_2 o0_3 o0_4 μ)):=by kernel_rfl
theorem NQ (x0 x1 x6 o0_0 o0_1 o0_2 o0_3 o0_4 μ):(JJ x0 x1 x6 o0_0 o0_1 o0_2 o0_3 o0_4).sK ρ μ=
 opt (bJ x0 x1 x6) fun s20=>
 callK (ρ.call 97 [LV.str s20] μ) (fun v21 μ22 =>
 opt (aI v21) fun s25=>
 some (tB (0:Int) (0:Int) s25 x6 (0:Int) μ22)) (pX Kf):=by kernel_rfl
theorem Ea (o0_0 o0_1 o0_2 o0_3 o0_4 μ):kB ρ 58 H58 [.block 0,.seq (cA 58 [1,1,1])] (tB o0_0 o0_1 o0_2 o0_3 o0_4 μ)=
 some (.ret (LV.cv (CV.agg [CV.int .i64 o0_0,CV.int .i64 o0_1,CV.str o0_2,CV.int .i64 o0_3,CV.int .i64 o0_4])) μ):=by kernel_rfl
theorem Gr (x0 x1 x6 o0_0 o0_1 o0_2 o0_3 o0_4 μ):kB ρ 58 H58 [.block 1,.seq (cA 58 [1,1,0,0,1,0,1,1]),.block 0,.seq (cA 58 [1,1,1])] (mi x0 x1 x6 o0_0 o0_1 o0_2 o0_3 o0_4 μ)=
 cond (decide ((31 : Int) < IntKind.wrap .i64 (x6 - x1))) (
 some (.ret (LV.cv (CV.agg [CV.int .i64 (0:Int),CV.int .i64 (0:Int),CV.str ([]:List UInt8),CV.int .i64 (0:Int),CV.int .i64 (4:Int)])) μ)) (
 opt (Ml ρ x0 x1 x6 o0_0 o0_1 o0_2 o0_3 o0_4 μ) (kB ρ 58 H58 [.block 0,.seq (cA 58 [1,1,1])])):=by kernel_rfl
theorem yr (x0 x1 x85 x86 x87 o0_0 o0_1 o0_2 o0_3 o0_4 μ):(Cx x0 x1 x85 x86 x87 o0_0 o0_1 o0_2 o0_3 o0_4).rK ρ μ=
 cond (decide (x87 < x86)) (
 opt (dZ x85 x87) fun c47=>
 opt (aI (LV.cv c47)) fun s48=>
 callK (ρ.call 99 [LV.str x0, LV.int .i64 x1, LV.str s48] μ) (fun v49 μ50 =>
 opt (aN v49) fun b53=>
 cond (b53) (
 some (ri (2:Int) (0:Int) s48 (IntKind.wrap .i64 (x1+(List.length s48:Int))) (0:Int) μ50)) (
 zi ρ x0 x1 x85 x86 (IntKind.wrap .i64 (x87+(1:Int))) o0_0 o0_1 o0_2 o0_3 o0_4 μ50)) (pX He)) (
 some (qD x0 x1 o0_0 o0_1 o0_2 o0_3 o0_4 μ)):=by kernel_rfl
theorem A2 (o0_0 o0_1 o0_2 o0_3 o0_4 μ):kS ρ H58 [.block 3,.seq (cA 58 [1,1,0,0,1,1,1,1,1,0,1])] [(0,0),(1,0),(4,0)] (ri o0_0 o0_1 o0_2 o0_3 o0_4 μ)=
 some (da o0_0 o0_1 o0_2 o0_3 o0_4 μ):=by kernel_rfl
theorem Al (x0 x1 x103 x104 x105 o0_0 o0_1 o0_2 o0_3 o0_4 μ):(DW x0 x1 x103 x104 x105 o0_0 o0_1 o0_2 o0_3 o0_4).rK ρ μ=
 cond (decide (x105 < x104)) (
 opt (dZ x103 x105) fun c54=>
 opt (aI (LV.cv c54)) fun s55=>
 callK (ρ.call 99 [LV.str x0, LV.int .i64 x1, LV.str s55] μ) (fun v56 μ57 =>
 opt (aN v56) fun b60=>
 cond (b60) (
 some (qF (1:Int) (5:Int) s55 (IntKind.wrap .i64 (x1+(List.length s55:Int))) (0:Int) μ57)) (
 yU ρ x0 x1 x103 x104 (IntKind.wrap .i64 (x105+(1:Int))) o0_0 o0_1 o0_2 o0_3 o0_4 μ57)) (pX HL)) (
 some (qu o0_0 o0_1 o0_2 o0_3 o0_4 μ)):=by kernel_rfl
theorem AP (o0_0 o0_1 o0_2 o0_3 o0_4 μ):kS ρ H58 [.block 5,.seq (cA 58 [1,1,0,0,1,1,1,1,1,0,1,1])] [(0,0),(1,0),(4,0)] (qF o0_0 o0_1 o0_2 o0_3 o0_4 μ)=
 some (da o0_0 o0_1 o0_2 o0_3 o0_4 μ):=by kernel_rfl
theorem AQ (o0_0 o0_1 o0_2 o0_3 o0_4 μ):kS ρ H58 [.block 5,.seq (cA 58 [1,1,0,0,1,1,1,1,1,0,1,1])] [(0,0),(1,0),(4,0)] (qu o0_0 o0_1 o0_2 o0_3 o0_4 μ)=
 some (da (0:Int) (0:Int) ([]:List UInt8) (0:Int) (7:Int) μ):=by kernel_rfl
theorem Co (x0 x1 o0_0 o0_1 o0_2 o0_3 o0_4 μ):kS ρ H58 [.block 3,.seq (cA 58 [1,1,0,0,1,1,1,1,1,0,1])] [(0,0),(1,0),(4,0)] (qD x0 x1 o0_0 o0_1 o0_2 o0_3 o0_4 μ)=
 opt (yU ρ x0 x1 [CV.str ([46,84,82,85,69,46]:List UInt8),CV.str ([46,70,65,76,83,69,46]:List UInt8)] (2:Int) (0:Int) o0_0 o0_1 o0_2 o0_3 o0_4 μ) (kS ρ H58 [.block 5,.seq (cA 58 [1,1,0,0,1,1,1,1,1,0,1,1])] [(0,0),(1,0),(4,0)]):=by kernel_rfl
theorem J8 (x0 x1 x5 x60 o0_0 o0_1 o0_2 o0_3 o0_4 μ):(C4 x0 x1 x5 x60 o0_0 o0_1 o0_2 o0_3 o0_4).sK ρ μ=
 cond (x60) (
 callK (ρ.call 98 [LV.str x0, LV.int .i64 x1] μ) (fun v33 μ34 =>
 zD v33 fun n37 n38 s39 n40 n41=>
 some (da n37 n38 s39 n40 n41 μ34)) (pX mB)) (
 cond (decide (x5 = (46 : Int))) (
 callK (ρ.call 55 [] μ) (fun v42 μ43 =>
 opt (cM v42) fun l46=>
 opt (zi ρ x0 x1 l46 (List.length l46:Int) (0:Int) o0_0 o0_1 o0_2 o0_3 o0_4 μ43) (kS ρ H58 [.block 3,.seq (cA 58 [1,1,0,0,1,1,1,1,1,0,1])] [(0,0),(1,0),(4,0)])) (pX mB)) (
 cond (decide (x5 = (39 : Int))) (
 callK (ρ.call 81 [LV.str x0, LV.int .i64 x1] μ) (fun v63 μ64 =>
 zD v63 fun n67 n68 s69 n70 n71=>
 some (da n67 n68 s69 n70 n71 μ64)) (pX mB)) (
 cond (decide (x5 = (34 : Int))) (
 callK (ρ.call 81 [LV.str x0, LV.int .i64 x1] μ) (fun v72 μ73 =>
 zD v72 fun n76 n77 s78 n79 n80=>
 some (da n76 n77 s78 n79 n80 μ73)) (pX mB)) (
 some (rl x0 x1 o0_0 o0_1 o0_2 o0_3 o0_4 μ))))):=by kernel_rfl
theorem sa (o0_0 o0_1 o0_2 o0_3 o0_4 μ):kB ρ 58 H58 [.block 0,.seq (cA 58 [1,1,1])] (da o0_0 o0_1 o0_2 o0_3 o0_4 μ)=
 some (.ret (LV.cv (CV.agg [CV.int .i64 o0_0,CV.int .i64 o0_1,CV.str o0_2,CV.int .i64 o0_3,CV.int .i64 o0_4])) μ):=by kernel_rfl
theorem oI (x0 x1 x133 x134 x135 o0_0 o0_1 o0_2 o0_3 o0_4 o1_0 o1_1 o1_2 o1_3 o1_4 μ):(CB x0 x1 x133 x134 x135 o0_0 o0_1 o0_2 o0_3 o0_4 o1_0 o1_1 o1_2 o1_3 o1_4).rK ρ μ=
 cond (decide (x135 < x134)) (
 opt (dZ x133 x135) fun c86=>
 L5 (LV.cv c86) fun s87 s88=>
 callK (ρ.call 99 [LV.str x0, LV.int .i64 x1, LV.str s87] μ) (fun v89 μ90 =>
 opt (aN v89) fun b93=>
 cond (b93) (
 cond (decide (o1_3 < IntKind.wrap .i64 (x1 + (List.length s87 : Int)))) (
 pU ρ x0 x1 x133 x134 (IntKind.wrap .i64 (x135+(1:Int))) o0_0 o0_1 o0_2 o0_3 o0_4 (2:Int) (0:Int) s88 (IntKind.wrap .i64 (x1+(List.length s87:Int))) (0:Int) μ90) (
 pU ρ x0 x1 x133 x134 (IntKind.wrap .i64 (x135+(1:Int))) o0_0 o0_1 o0_2 o0_3 o0_4 o1_0 o1_1 o1_2 o1_3 o1_4 μ90)) (
 pU ρ x0 x1 x133 x134 (IntKind.wrap .i64 (x135+(1:Int))) o0_0 o0_1 o0_2 o0_3 o0_4 o1_0 o1_1 o1_2 o1_3 o1_4 μ90)) (pX Jl)) (
 some (q5 x0 x1 o0_0 o0_1 o0_2 o0_3 o0_4 o1_0 o1_1 o1_2 o1_3 o1_4 μ)):=by kernel_rfl
theorem oT (x0 x1 x164 x165 x166 o0_0 o0_1 o0_2 o0_3 o0_4 o1_0 o1_1 o1_2 o1_3 o1_4 μ):(DP x0 x1 x164 x165 x166 o0_0 o0_1 o0_2 o0_3 o0_4 o1_0 o1_1 o1_2 o1_3 o1_4).rK ρ μ=
 cond (decide (x166 < x165)) (
 opt (dZ x164 x166) fun c99=>
 opt (aI (LV.cv c99)) fun s100=>
 callK (ρ.call 99 [LV.str x0, LV.int .i64 x1, LV.str s100] μ) (fun v101 μ102 =>
 opt (aN v101) fun b105=>
 cond (b105) (
 cond (decide (o1_3 < IntKind.wrap .i64 (x1 + (List.length s100 : Int)))) (
 ni ρ x0 x1 x164 x165 (IntKind.wrap .i64 (x166+(1:Int))) o0_0 o0_1 o0_2 o0_3 o0_4 (2:Int) (0:Int) s100 (IntKind.wrap .i64 (x1+(List.length s100:Int))) (0:Int) μ102) (
 ni ρ x0 x1 x164 x165 (IntKind.wrap .i64 (x166+(1:Int))) o0_0 o0_1 o0_2 o0_3 o0_4 o1_0 o1_1 o1_2 o1_3 o1_4 μ102)) (
 ni ρ x0 x1 x164 x165 (IntKind.wrap .i64 (x166+(1:Int))) o0_0 o0_1 o0_2 o0_3 o0_4 o1_0 o1_1 o1_2 o1_3 o1_4 μ102)) (pX Ie)) (
 some (kE o0_0 o0_1 o0_2 o0_3 o0_4 o1_0 o1_1 o1_2 o1_3 o1_4 μ)):=by kernel_rfl
theorem sq (o0_0 o0_1 o0_2 o0_3 o0_4 o1_0 o1_1 o1_2 o1_3 o1_4 μ):kS ρ H58 [.block 9,.seq (cA 58 [1,1,1,1,1,1])] [(4,0)] (kE o0_0 o0_1 o0_2 o0_3 o0_4 o1_0 o1_1 o1_2 o1_3 o1_4 μ)=
 some (mR o1_0 o1_1 o1_2 o1_3 o1_4 μ):=by kernel_rfl
theorem sk (x0 x1 o0_0 o0_1 o0_2 o0_3 o0_4 o1_0 o1_1 o1_2 o1_3 o1_4 μ):kS ρ H58 [.block 7,.seq (cA 58 [1,1,1,1,1])] [(4,0)] (q5 x0 x1 o0_0 o0_1 o0_2 o0_3 o0_4 o1_0 o1_1 o1_2 o1_3 o1_4 μ)=
 callK (ρ.call 56 [] μ) (fun v94 μ95 =>
 opt (cM v94) fun l98=>
 opt (ni ρ x0 x1 l98 (List.length l98:Int) (0:Int) o0_0 o0_1 o0_2 o0_3 o0_4 o1_0 o1_1 o1_2 o1_3 o1_4 μ95) (kS ρ H58 [.block 9,.seq (cA 58 [1,1,1,1,1,1])] [(4,0)])) (pX xl):=by kernel_rfl
theorem JY (x0 x1 o0_0 o0_1 o0_2 o0_3 o0_4 μ):(C6 x0 x1 o0_0 o0_1 o0_2 o0_3 o0_4).sK ρ μ=
 callK (ρ.call 100 [] μ) (fun v81 μ82 =>
 opt (cM v81) fun l85=>
 opt (pU ρ x0 x1 l85 (List.length l85:Int) (0:Int) o0_0 o0_1 o0_2 o0_3 o0_4 (0:Int) (0:Int) ([]:List UInt8) (0:Int) (7:Int) μ82) (kS ρ H58 [.block 7,.seq (cA 58 [1,1,1,1,1])] [(4,0)])) (pX xl):=by kernel_rfl
theorem sJ (o0_0 o0_1 o0_2 o0_3 o0_4 μ):kB ρ 58 H58 [] (mR o0_0 o0_1 o0_2 o0_3 o0_4 μ)=
 some (.ret (LV.cv (CV.agg [CV.int .i64 o0_0,CV.int .i64 o0_1,CV.str o0_2,CV.int .i64 o0_3,CV.int .i64 o0_4])) μ):=by kernel_rfl
theorem AY (x0 x1 o0_0 o0_1 o0_2 o0_3 o0_4 μ):kB ρ 58 H58 [.block 0,.seq (cA 58 [1,1,1])] (rl x0 x1 o0_0 o0_1 o0_2 o0_3 o0_4 μ)=
 opt (IS ρ x0 x1 o0_0 o0_1 o0_2 o0_3 o0_4 μ) (kB ρ 58 H58 []):=by kernel_rfl
theorem QW (a b μ):aG E ρ 58 [LV.str a,LV.int .i64 b] μ=
 opt (aX a b) fun y1=>
 callK (ρ.call 96 [LV.int .u8 (y1.toNat : Int)] μ) (fun v2 μ3 =>
 opt (aN v2) fun b6=>
 cond (b6) (
 opt (rW ρ a b b (0:Int) (0:Int) ([]:List UInt8) (0:Int) (0:Int) μ3) (kB ρ 58 H58 [.block 1,.seq (cA 58 [1,1,0,0,1,0,1,1]),.block 0,.seq (cA 58 [1,1,1])])) (
 callK (ρ.call 67 [LV.int .u8 (y1.toNat : Int)] μ3) (fun v28 μ29 =>
 opt (aN v28) fun b32=>
 cond (b32) (
 opt (nD ρ a b (y1.toNat:Int) b32 (0:Int) (0:Int) ([]:List UInt8) (0:Int) (0:Int) μ29) (kB ρ 58 H58 [.block 0,.seq (cA 58 [1,1,1])])) (
 cond (decide ((y1.toNat : Int) = (46 : Int))) (
 cond (decide (IntKind.wrap .i64 (b + (1 : Int)) < (List.length a : Int))) (
 opt (aX a (IntKind.wrap .i64 (b+(1:Int)))) fun y110=>
 callK (ρ.call 67 [LV.int .u8 (y110.toNat : Int)] μ29) (fun v111 μ112 =>
 opt (aN v111) fun b115=>
 opt (nD ρ a b (y1.toNat:Int) b115 (0:Int) (0:Int) ([]:List UInt8) (0:Int) (0:Int) μ112) (kB ρ 58 H58 [.block 0,.seq (cA 58 [1,1,1])])) pP) (
 opt (nD ρ a b (y1.toNat:Int) false (0:Int) (0:Int) ([]:List UInt8) (0:Int) (0:Int) μ29) (kB ρ 58 H58 [.block 0,.seq (cA 58 [1,1,1])]))) (
 opt (nD ρ a b (y1.toNat:Int) false (0:Int) (0:Int) ([]:List UInt8) (0:Int) (0:Int) μ29) (kB ρ 58 H58 [.block 0,.seq (cA 58 [1,1,1])])))) pP)) pP:=by kernel_rfl
def Jq (x0:List UInt8)(x7:List CV)(x8 x9:Int):SegD:=⟨H59,[],cA 59 [1,0,1,0,0],mS [(0,LV.str x0),(7,LV.cv (CV.sl x7)),(8,LV.int .i64 x8),(9,LV.int .i64 x9)] []⟩
def uN (x0:List UInt8)(x7:List CV)(x8 x9:Int)(μ:Mu):=(Jq x0 x7 x8 x9).loop ρ μ
def sU (x2 x3:Int)(μ:Mu):St:= .ret (mS [(2,LV.int .i64 x2),(3,LV.int .i64 x3)] []) μ
def LJ (pv:CV)(μ:Mu):St:= .panic pv (mS [] []) μ
def tO (μ:Mu):St:= .exit 0 (mS [] []) μ
theorem C9 (x0 x7 x8 x9 μ):(Jq x0 x7 x8 x9).rK ρ μ=
 cond (decide (x9 < x8)) (
 opt (dZ x7 x9) fun c1=>
 opt (aE .i64 (LV.cv c1)) fun n2=>
 callK (ρ.call 12 [LV.int .i64 n2, LV.str x0] μ) (fun v3 μ4 =>
 opt (aE .i64 v3) fun n7=>
 cond (!decide (n7 = (3 : Int))) (
 some (sU n2 n7 μ4)) (
 uN ρ x0 x7 x8 (IntKind.wrap .i64 (x9+(1:Int))) μ4)) (pX LJ)) (
 some (tO μ)):=by kernel_rfl
theorem oW (x2 x3 μ):kB ρ 59 H59 [.block 0,.seq (cA 59 [1,1])] (sU x2 x3 μ)=
 some (.ret (LV.ltup [LV.int .i64 x2,LV.int .i64 x3]) μ):=by kernel_rfl
theorem Ec (μ):kB ρ 59 H59 [.block 0,.seq (cA 59 [1,1])] (tO μ)=
 some (.ret (LV.ltup [LV.int .i64 (0:Int),LV.int .i64 (3:Int)]) μ):=by kernel_rfl
theorem QZ (a μ):aG E ρ 59 [LV.str a] μ=
 opt (uN ρ a [CV.int .i64 (0:Int),CV.int .i64 (1:Int),CV.int .i64 (2:Int)] (3:Int) (0:Int) μ) (kB ρ 59 H59 [.block 0,.seq (cA 59 [1,1])]):=by kernel_rfl
def GM (x0:List UInt8):SegD:=⟨H64,[(2,0)],cA 64 [1,1],mS [(0,LV.str x0)] []⟩
def LZ (x0:List UInt8)(μ:Mu):=(GM x0).seg ρ μ
def lP (x2:Bool)(μ:Mu):St:= .ret (mS [(2,LV.bool x2)] []) μ
theorem Nk (x0 μ):(GM x0).sK ρ μ=
 cond (decide (x0 = ([48] : List UInt8))) (
 some (lP true μ)) (
 opt (aX x0 (0:Int)) fun y6=>
 cond (!decide ((y6.toNat : Int) = (48 : Int))) (
 opt (aX x0 (IntKind.wrap .i64 ((List.length x0:Int) -(1:Int)))) fun y7=>
 some (lP (!decide ((y7.toNat:Int)=(48:Int))) μ)) (
 some (lP false μ))):=by kernel_rfl
theorem FN (x2 μ):kB ρ 64 H64 [] (lP x2 μ)=
 some (.ret (LV.bool x2) μ):=by kernel_rfl
theorem QK (a μ):aG E ρ 64 [LV.str a] μ=
 cond (decide (a = ([] : List UInt8))) (
 some (.ret (LV.bool false) μ)) (
 cond (decide ((30 : Int) < (List.length a : Int))) (
 some (.ret (LV.bool false) μ)) (
 callK (ρ.call 43 [LV.str a, LV.cv (CV.clo 112 [])] μ) (fun v1 μ2 =>
 opt (aN v1) fun b5=>
 cond (b5) (
 some (.ret (LV.bool false) μ2)) (
 opt (LZ ρ a μ2) (kB ρ 64 H64 []))) pP)):=by kernel_rfl
theorem Og (a b μ):aG E ρ 65 [LV.str a,LV.bool b] μ=
 cond (b) (
 callK (ρ.call 62 [LV.str a, LV.str ([48] : List UInt8)] μ) (fun v1 μ2 =>
 opt (aI v1) fun s5=>
 cond (decide (s5 = ([] : List UInt8))) (
 some (.ret (LV.str ([48]:List UInt8)) μ2)) (
 some (.ret (LV.str s5) μ2))) pP) (
 callK (ρ.call 63 [LV.str a, LV.str ([48] : List UInt8)] μ) (fun v6 μ7 =>
 opt (aI v6) fun s10=>
 cond (decide (s10 = ([] : List UInt8))) (
 some (.ret (LV.str ([48]:List UInt8)) μ7)) (
 some (.ret (LV.str s10) μ7))) pP):=by kernel_rfl
theorem Q5 (a μ):aG E ρ 67 [LV.int .u8 a] μ=
 cond (decide ((48 : Int) ≤ a)) (
 some (.ret (LV.bool (decide (a≤(57:Int)))) μ)) (
 some (.ret (LV.bool false) μ)):=by kernel_rfl
def In (x0:List UInt8)(x1 x6:Int)(x7:List UInt8):SegD:=⟨H68,[(4,0),(5,0)],cA 68 [1,1,1],mS [(0,LV.str x0),(1,LV.int .i64 x1),(6,LV.int .i64 x6),(7,LV.str x7)] []⟩
def xB (x0:List UInt8)(x1 x6:Int)(x7:List UInt8)(μ:Mu):=(In x0 x1 x6 x7).seg ρ μ
def lD (x4:Int)(x5:Bool)(μ:Mu):St:= .ret (mS [(4,LV.int .i64 x4),(5,LV.bool x5)] []) μ
def Hb (x6:Int)(x7:List UInt8):SegD:=⟨H68,[(4,0),(5,0)],cA 68 [1,1,1,1],mS [(6,LV.int .i64 x6),(7,LV.str x7)] []⟩
def Gx (x6:Int)(x7:List UInt8)(μ:Mu):=(Hb x6 x7).seg ρ μ
def It (x6:Int)(x7:List UInt8)(x8 x36 x37:Int):SegD:=⟨H68,[(8,0)],cA 68 [1,1,1,1,1,0,1,0,0],mS [(6,LV.int .i64 x6),(7,LV.str x7),(8,LV.int .i64 x8),(36,LV.int .i64 x36),(37,LV.int .i64 x37)] []⟩
def Fy (x6:Int)(x7:List UInt8)(x8 x36 x37:Int)(μ:Mu):=(It x6 x7 x8 x36 x37).loop ρ μ
def JV (x4:Int)(x5:Bool)(μ:Mu):St:= .ret (mS [(4,LV.int .i64 x4),(5,LV.bool x5)] []) μ
def Di (x6:Int)(x7:List UInt8)(x8 x9 x36 x37:Int):SegD:=⟨H68,[(6,0),(7,0),(8,0),(36,0),(37,0)],cA 68 [1,1,1,1,1,0,1,0,0,1,1,0,0,1,1],mS [(6,LV.int .i64 x6),(7,LV.str x7),(8,LV.int .i64 x8),(9,LV.int .i64 x9),(36,LV.int .i64 x36),(37,LV.int .i64 x37)] []⟩
def IG (x6:Int)(x7:List UInt8)(x8 x9 x36 x37:Int)(μ:Mu):=(Di x6 x7 x8 x9 x36 x37).seg ρ μ
def rp (x6:Int)(x7:List UInt8)(x8 x36 x37:Int)(μ:Mu):St:= .norm (mS [(6,LV.int .i64 x6),(7,LV.str x7),(8,LV.int .i64 x8),(36,LV.int .i64 x36),(37,LV.int .i64 x37)] []) μ
def LO (pv:CV)(μ:Mu):St:= .panic pv (mS [] []) μ
def tM (x8:Int)(μ:Mu):St:= .exit 0 (mS [(8,LV.int .i64 x8)] []) μ
def tz (x4:Int)(x5:Bool)(μ:Mu):St:= .ret (mS [(4,LV.int .i64 x4),(5,LV.bool x5)] []) μ
def KV (pv:CV)(μ:Mu):St:= .panic pv (mS [] []) μ
theorem LN (x6 x7 x8 x9 x36 x37 μ):(Di x6 x7 x8 x9 x36 x37).sK ρ μ=
 opt (aX x7 x9) fun y15=>
 some (rp x6 x7 (IntKind.wrap .i64 (IntKind.wrap .i64 ((10:Int)*x8)+IntKind.wrap .i64 (x6*IntKind.wrap .i64 (IntKind.wrap .u8 ((y15.toNat:Int) -(48:Int)))))) x36 x37 μ):=by kernel_rfl
theorem BF (x6 x7 x8 x36 x37 μ):kR ρ H68 [.block 1,.seq (cA 68 [1,1,1,1,1,0,1,0,0,1,1,1])] [(8,0)] (cA 68 [1,1,1,1,1,0,1,0,0]) (rp x6 x7 x8 x36 x37 μ)=
 Fy ρ x6 x7 x8 x36 (IntKind.wrap .i64 (x37+(1:Int))) μ:=by kernel_rfl
theorem Cu (x6 x7 x8 x36 x37 μ):(It x6 x7 x8 x36 x37).rK ρ μ=
 cond (decide (x37 < x36)) (
 opt (aX x7 x37) fun y9=>
 callK (ρ.call 114 [LV.int .u8 (y9.toNat : Int)] μ) (fun v10 μ11 =>
 opt (aN v10) fun b14=>
 cond (!b14) (
 some (JV (0:Int) false μ11)) (
 opt (IG ρ x6 x7 x8 x37 x36 x37 μ11) (kR ρ H68 [.block 1,.seq (cA 68 [1,1,1,1,1,0,1,0,0,1,1,1])] [(8,0)] (cA 68 [1,1,1,1,1,0,1,0,0])))) (pX LO)) (
 some (tM x8 μ)):=by kernel_rfl
theorem FF (x8 μ):kS ρ H68 [.block 0,.seq (cA 68 [1,1,1,1,1,1])] [(4,0),(5,0)] (tM x8 μ)=
 some (tz x8 true μ):=by kernel_rfl
theorem MK (x6 x7 μ):(Hb x6 x7).sK ρ μ=
 opt (Fy ρ x6 x7 (0:Int) (List.length x7:Int) (0:Int) μ) (kS ρ H68 [.block 0,.seq (cA 68 [1,1,1,1,1,1])] [(4,0),(5,0)]):=by kernel_rfl
theorem FI (x4 x5 μ):kS ρ H68 [] [(4,0),(5,0)] (tz x4 x5 μ)=
 some (lD x4 x5 μ):=by kernel_rfl
theorem M3 (x0 x1 x6 x7 μ):(In x0 x1 x6 x7).sK ρ μ=
 callK (ρ.call 23 [LV.int .i64 (List.length x7 : Int), LV.int .i64 (1 : Int), LV.int .i64 x1] μ) (fun v3 μ4 =>
 opt (aN v3) fun b7=>
 cond (!b7) (
 some (lD (0:Int) false μ4)) (
 opt (aX x7 (0:Int)) fun y8=>
 cond (decide ((y8.toNat : Int) = (48 : Int))) (
 cond (decide ((1 : Int) < (List.length x0 : Int))) (
 some (lD (0:Int) false μ4)) (
 opt (Gx ρ x6 x7 μ4) (kS ρ H68 [] [(4,0),(5,0)]))) (
 opt (Gx ρ x6 x7 μ4) (kS ρ H68 [] [(4,0),(5,0)])))) (pX KV):=by kernel_rfl
theorem uw (x4 x5 μ):kB ρ 68 H68 [] (lD x4 x5 μ)=
 some (.ret (LV.ltup [LV.int .i64 x4,LV.bool x5]) μ):=by kernel_rfl
theorem QQ (a b μ):aG E ρ 68 [LV.str a,LV.int .i64 b] μ=
 cond (!decide (a = ([] : List UInt8))) (
 opt (aX a (0:Int)) fun y1=>
 cond (decide ((y1.toNat : Int) = (45 : Int))) (
 opt (bJ a (1:Int) (List.length a:Int)) fun s2=>
 opt (xB ρ a b (-1:Int) s2 μ) (kB ρ 68 H68 [])) (
 opt (xB ρ a b (1:Int) a μ) (kB ρ 68 H68 []))) (
 opt (xB ρ a b (1:Int) a μ) (kB ρ 68 H68 [])):=by kernel_rfl
def Ih (x0:List UInt8):SegD:=⟨H69,[(0,0)],cA 69 [1,0,0,0],mS [(0,LV.str x0)] []⟩
def Ek (x0:List UInt8)(μ:Mu):=(Ih x0).loop ρ μ
def o7 (x0:List UInt8)(μ:Mu):St:= .exit 0 (mS [(0,LV.str x0)] []) μ
theorem wc (x0 μ):(Ih x0).rK ρ μ=
 cond (decide ((1 : Int) < (List.length x0 : Int))) (
 opt (aX x0 (0:Int)) fun y1=>
 cond (decide ((y1.toNat : Int) = (48 : Int))) (
 opt (bJ x0 (1:Int) (List.length x0:Int)) fun s2=>
 Ek ρ s2 μ) (
 some (o7 x0 μ))) (
 some (o7 x0 μ)):=by kernel_rfl
theorem F6 (x0 μ):kB ρ 69 H69 [.block 0,.seq (cA 69 [1,1])] (o7 x0 μ)=
 some (.ret (LV.str x0) μ):=by kernel_rfl
theorem QP (a μ):aG E ρ 69 [LV.str a] μ=
 opt (Ek ρ a μ) (kB ρ 69 H69 [.block 0,.seq (cA 69 [1,1])]):=by kernel_rfl
theorem Q3 (a μ):aG E ρ 70 [LV.str a] μ=
 cond (decide (a = ([] : List UInt8))) (
 some (.ret (LV.str ([48]:List UInt8)) μ)) (
 some (.ret (LV.str a) μ)):=by kernel_rfl
def Id (x0:Int):SegD:=⟨H71,[(0,0)],cA 71 [1,0,1,0,1],mS [(0,LV.int .i64 x0)] []⟩
def Mc (x0:Int)(μ:Mu):=(Id x0).seg ρ μ
def ti (x2:List UInt8)(μ:Mu):St:= .ret (mS [(2,LV.str x2)] []) μ
def ya (pv:CV)(μ:Mu):St:= .panic pv (mS [] []) μ
def H0 (x0:Int):SegD:=⟨H71,[(2,0)],cA 71 [1,1],mS [(0,LV.int .i64 x0)] []⟩
def Ms (x0:Int)(μ:Mu):=(H0 x0).seg ρ μ
def oB (x2:List UInt8)(μ:Mu):St:= .ret (mS [(2,LV.str x2)] []) μ
def zu (pv:CV)(μ:Mu):St:= .panic pv (mS [] []) μ
theorem Nt (x0 μ):(Id x0).sK ρ μ=
 callK (ρ.call 71 [LV.int .i64 (IntKind.wrap .i64 (Int.tdiv x0 (10 : Int)))] μ) (fun v6 μ7 =>
 opt (aI v6) fun s10=>
 callK (ρ.call 71 [LV.int .i64 (IntKind.wrap .i64 (0 - Int.tmod x0 (10 : Int)))] μ7) (fun v11 μ12 =>
 opt (aI v11) fun s15=>
 az (a6 (List.length s10 + List.length s15)) (
 some (ti (s10++s15) μ12))) (pX ya)) (pX ya):=by kernel_rfl
theorem D9 (x2 μ):kB ρ 71 H71 [.seq (cA 71 [1,1])] (ti x2 μ)=
 some (.ret (LV.str x2) μ):=by kernel_rfl
theorem NO (x0 μ):(H0 x0).sK ρ μ=
 cond (decide ((9 : Int) < x0)) (
 callK (ρ.call 71 [LV.int .i64 (IntKind.wrap .i64 (Int.tdiv x0 (10 : Int)))] μ) (fun v17 μ18 =>
 opt (aI v17) fun s21=>
 callK (ρ.call 71 [LV.int .i64 (Int.tmod x0 (10 : Int))] μ18) (fun v22 μ23 =>
 opt (aI v22) fun s26=>
 az (a6 (List.length s21 + List.length s26)) (
 some (oB (s21++s26) μ23))) (pX zu)) (pX zu)) (
 opt (bJ ([48,49,50,51,52,53,54,55,56,57]:List UInt8) x0 (IntKind.wrap .i64 (x0+(1:Int)))) fun s27=>
 some (oB s27 μ)):=by kernel_rfl
theorem Gu (x2 μ):kB ρ 71 H71 [] (oB x2 μ)=
 some (.ret (LV.str x2) μ):=by kernel_rfl
theorem OM (a μ):aG E ρ 71 [LV.int .i64 a] μ=
 cond (decide (a < (0 : Int))) (
 cond (decide ((-10 : Int) < a)) (
 callK (ρ.call 71 [LV.int .i64 (IntKind.wrap .i64 (0 - a))] μ) (fun v1 μ2 =>
 opt (aI v1) fun s5=>
 az (a6 (List.length ([45] : List UInt8) + List.length s5)) (
 some (.ret (LV.str (([45]:List UInt8)++s5)) μ2))) pP) (
 opt (Mc ρ a μ) (kB ρ 71 H71 [.seq (cA 71 [1,1])]))) (
 opt (Ms ρ a μ) (kB ρ 71 H71 [])):=by kernel_rfl
def Je (o0_0:List UInt8)(o0_1:Bool):SegD:=⟨H78,[(4,0),(5,0),(6,0)],cA 78 [1,1,1],mS [(7,LV.loc 0 0)] [Ob.cells [LV.str o0_0,LV.bool o0_1,LV.cv (CV.v (.slice none 0 0)),LV.cv (CV.v (.slice none 0 0))]]⟩
def LQ (o0_0:List UInt8)(o0_1:Bool)(μ:Mu):=(Je o0_0 o0_1).seg ρ μ
def Ic (x9 x10:Int)(lam:Lam):SegD:=⟨H78,[(7,0)],cA 78 [1,1,1,0,1],mS [(7,LV.loc 0 0),(9,LV.int .i64 x9),(10,LV.int .i64 x10)] lam true⟩
def ET (x9 x10:Int)(lam:Lam)(μ:Mu):=(Ic x9 x10 lam).seg ρ μ
def sW (x4_0:List UInt8)(x4_1:Bool)(x4_2 x4_3:List CV)(x5 x6:Int)(μ:Mu):St:= .ret (mS [(4,LV.cv (CV.view [CV.str x4_0,CV.bool x4_1,CV.sl x4_2,CV.sl x4_3])),(5,LV.int .i64 x5),(6,LV.int .i64 x6)] [Ob.dead] true) μ
def tr (o0_0:List UInt8)(o0_1:Bool)(o0_2 o0_3:List CV)(μ:Mu):St:= .norm (mS [(7,LV.loc 0 0)] [Ob.cells [LV.str o0_0,LV.bool o0_1,LV.osl o0_2,LV.osl o0_3]] true) μ
def oF (x4_0:List UInt8)(x4_1:Bool)(x4_2 x4_3:List CV)(x5 x6:Int)(μ:Mu):St:= .ret (mS [(4,LV.cv (CV.view [CV.str x4_0,CV.bool x4_1,CV.sl x4_2,CV.sl x4_3])),(5,LV.int .i64 x5),(6,LV.int .i64 x6)] [Ob.dead] true) μ
def IK (lam:Lam):SegD:=⟨H78,[(4,0),(5,0),(6,0)],cA 78 [1,1,1,1],mS [(7,LV.loc 0 0)] lam true⟩
def EJ (lam:Lam)(μ:Mu):=(IK lam).seg ρ μ
def tw (x4_0:List UInt8)(x4_1:Bool)(x4_2 x4_3:List CV)(x5 x6:Int)(μ:Mu):St:= .ret (mS [(4,LV.cv (CV.view [CV.str x4_0,CV.bool x4_1,CV.sl x4_2,CV.sl x4_3])),(5,LV.int .i64 x5),(6,LV.int .i64 x6)] [Ob.dead] true) μ
def Dn (x7_0:List UInt8)(x7_1:Bool)(x7_2 x7_3:List CV)(lam:Lam):SegD:=⟨H78,[(4,0),(5,0),(6,0)],cA 78 [1,1,1,1,1],mS [(7,LV.cv (CV.view [CV.str x7_0,CV.bool x7_1,CV.sl x7_2,CV.sl x7_3]))] lam true⟩
def HP (x7_0:List UInt8)(x7_1:Bool)(x7_2 x7_3:List CV)(lam:Lam)(μ:Mu):=(Dn x7_0 x7_1 x7_2 x7_3 lam).seg ρ μ
def rn (x4_0:List UInt8)(x4_1:Bool)(x4_2 x4_3:List CV)(x5 x6:Int)(o0:Ob)(μ:Mu):St:= .ret (mS [(4,LV.cv (CV.view [CV.str x4_0,CV.bool x4_1,CV.sl x4_2,CV.sl x4_3])),(5,LV.int .i64 x5),(6,LV.int .i64 x6)] [o0] true) μ
def tj (x4_0:List UInt8)(x4_1:Bool)(x4_2 x4_3:List CV)(x5 x6:Int)(o0:Ob)(μ:Mu):St:= .ret (mS [(4,LV.cv (CV.view [CV.str x4_0,CV.bool x4_1,CV.sl x4_2,CV.sl x4_3])),(5,LV.int .i64 x5),(6,LV.int .i64 x6)] [o0] true) μ
def tG (x4_0:List UInt8)(x4_1:Bool)(x4_2 x4_3:List CV)(x5 x6:Int)(o0:Ob)(μ:Mu):St:= .ret (mS [(4,LV.cv (CV.view [CV.str x4_0,CV.bool x4_1,CV.sl x4_2,CV.sl x4_3])),(5,LV.int .i64 x5),(6,LV.int .i64 x6)] [o0] true) μ
def K5 (pv:CV)(lam:Lam)(μ:Mu):St:= .panic pv (mS [] lam true) μ
theorem C1 (x9 x10:Int)(o0_0:List UInt8)(o0_1:Bool)(o0_2 o0_3:List CV)(μ:Mu):(Ic x9 x10 [Ob.cells [LV.str o0_0,LV.bool o0_1,LV.osl o0_2,LV.osl o0_3]]).sK ρ μ=
 cond (!decide (x10 = (0 : Int))) (
 some (sW o0_0 o0_1 o0_2 o0_3 x9 x10 μ)) (
 some (tr o0_0 o0_1 o0_2 o0_3 μ)):=by kernel_rfl
theorem Ex (x4_0 x4_1 x4_2 x4_3 x5 x6 μ):kS ρ H78 [.seq (cA 78 [1,1,1,1])] [(4,0),(5,0),(6,0)] (sW x4_0 x4_1 x4_2 x4_3 x5 x6 μ)=
 some (oF x4_0 x4_1 x4_2 x4_3 x5 x6 μ):=by kernel_rfl
theorem Ky (x7_0:List UInt8)(x7_1:Bool)(x7_2 x7_3:List CV)(o0:Ob)(μ:Mu):(Dn x7_0 x7_1 x7_2 x7_3 [o0]).sK ρ μ=
 some (rn x7_0 x7_1 x7_2 x7_3 (List.length x7_2:Int) (0:Int) o0 μ):=by kernel_rfl
theorem Bc (x4_0 x4_1 x4_2 x4_3 x5 x6 o0 μ):kS ρ H78 [] [(4,0),(5,0),(6,0)] (rn x4_0 x4_1 x4_2 x4_3 x5 x6 o0 μ)=
 some (tj x4_0 x4_1 x4_2 x4_3 x5 x6 o0 μ):=by kernel_rfl
theorem Cq (o0_0:List UInt8)(o0_1:Bool)(o0_2 o0_3:List CV)(μ:Mu):(IK [Ob.cells [LV.str o0_0,LV.bool o0_1,LV.osl o0_2,LV.osl o0_3]]).sK ρ μ=
 cond (decide ((300 : Int) < (List.length o0_2 : Int))) (
 some (tw o0_0 o0_1 o0_2 o0_3 (0:Int) (8:Int) μ)) (
 opt (HP ρ o0_0 o0_1 o0_2 o0_3 [Ob.dead] μ) (kS ρ H78 [] [(4,0),(5,0),(6,0)])):=by kernel_rfl
theorem EI (x4_0 x4_1 x4_2 x4_3 x5 x6 μ):kS ρ H78 [] [(4,0),(5,0),(6,0)] (tw x4_0 x4_1 x4_2 x4_3 x5 x6 μ)=
 some (oF x4_0 x4_1 x4_2 x4_3 x5 x6 μ):=by kernel_rfl
theorem FE (x4_0 x4_1 x4_2 x4_3 x5 x6 o0 μ):kS ρ H78 [] [(4,0),(5,0),(6,0)] (tj x4_0 x4_1 x4_2 x4_3 x5 x6 o0 μ)=
 some (tG x4_0 x4_1 x4_2 x4_3 x5 x6 o0 μ):=by kernel_rfl
theorem EN (o0_0 o0_1 o0_2 o0_3 μ):kS ρ H78 [.seq (cA 78 [1,1,1,1])] [(4,0),(5,0),(6,0)] (tr o0_0 o0_1 o0_2 o0_3 μ)=
 opt (EJ ρ [Ob.cells [LV.str o0_0,LV.bool o0_1,LV.osl o0_2,LV.osl o0_3]] μ) (kS ρ H78 [] [(4,0),(5,0),(6,0)]):=by kernel_rfl
theorem MP (o0_0 o0_1 μ):(Je o0_0 o0_1).sK ρ μ=
 callK (ρ.call 118 [LV.cv (CV.ref (List.length μ) 0 0)] (μ ++ [[Ob.cells [LV.str o0_0, LV.bool o0_1, LV.cv (CV.v (.slice none 0 0)), LV.cv (CV.v (.slice none 0 0))]]])) (fun v6 μ7 =>
 opt (gO μ7) fun q8=>
 opt (aR v6) fun xs12=>
 opt (aA xs12) fun q13=>
 opt (aE .i64 q13.1) fun n14=>
 opt (aA q13.2) fun q15=>
 opt (aE .i64 q15.1) fun n16=>
 opt (aM q15.2) fun u17=>
 Fj [(0,[0,0,1,1])] q8.2 fun lam18=>
 opt (ET ρ n14 n16 lam18 q8.1) (kS ρ H78 [.seq (cA 78 [1,1,1,1])] [(4,0),(5,0),(6,0)])) (fun v10 μ9=>
 opt (gO μ9) fun q11=>
 some (K5 v10 q11.2 q11.1)):=by kernel_rfl
theorem F2 (x4_0 x4_1 x4_2 x4_3 x5 x6 μ):kB ρ 78 H78 [] (oF x4_0 x4_1 x4_2 x4_3 x5 x6 μ)=
 az (e8 (List.length μ) (LV.ltup [LV.cv (CV.view [CV.str x4_0,CV.bool x4_1,CV.sl x4_2,CV.sl x4_3]),LV.int .i64 x5,LV.int .i64 x6])) (some (.ret (LV.ltup [LV.cv (CV.view [CV.str x4_0,CV.bool x4_1,CV.sl x4_2,CV.sl x4_3]),LV.int .i64 x5,LV.int .i64 x6]) μ)):=by kernel_rfl
theorem D5 (x4_0 x4_1 x4_2 x4_3 x5 x6 o0 μ):kB ρ 78 H78 [] (tG x4_0 x4_1 x4_2 x4_3 x5 x6 o0 μ)=
 az (e8 (List.length μ) (LV.ltup [LV.cv (CV.view [CV.str x4_0,CV.bool x4_1,CV.sl x4_2,CV.sl x4_3]),LV.int .i64 x5,LV.int .i64 x6])) (some (.ret (LV.ltup [LV.cv (CV.view [CV.str x4_0,CV.bool x4_1,CV.sl x4_2,CV.sl x4_3]),LV.int .i64 x5,LV.int .i64 x6]) μ)):=by kernel_rfl
theorem QM (a b μ):aG E ρ 78 [LV.str a,LV.bool b] μ=
 callK (ρ.call 117 [LV.str a] μ) (fun v1 μ2 =>
 opt (aE .i64 v1) fun n5=>
 cond (!decide (n5 = (0 : Int))) (
 some (.ret (LV.ltup [LV.cv (CV.view [CV.str a,CV.bool b,CV.v (.slice none 0 0),CV.v (.slice none 0 0)]),LV.int .i64 (0:Int),LV.int .i64 n5]) μ2)) (
 opt (LQ ρ a b μ2) (kB ρ 78 H78 []))) pP:=by kernel_rfl
def GR (x0:List UInt8)(x5:Int)(x6:List UInt8)(x7 o0_0 o0_1:Int)(o0_2:List UInt8)(o0_3 o0_4:Int):SegD:=⟨H81,[(4,0)],cA 81 [1,1,1,0,1,0,0],mS [(0,LV.str x0),(4,LV.loc 0 0),(5,LV.int .u8 x5),(6,LV.str x6),(7,LV.int .i64 x7)] [Ob.cells [LV.int .i64 o0_0,LV.int .i64 o0_1,LV.str o0_2,LV.int .i64 o0_3,LV.int .i64 o0_4]]⟩
def xR (x0:List UInt8)(x5:Int)(x6:List UInt8)(x7 o0_0 o0_1:Int)(o0_2:List UInt8)(o0_3 o0_4:Int)(μ:Mu):=(GR x0 x5 x6 x7 o0_0 o0_1 o0_2 o0_3 o0_4).loop ρ μ
def Hu (x0:List UInt8)(x5:Int)(x6:List UInt8)(x7 o0_0 o0_1:Int)(o0_2:List UInt8)(o0_3 o0_4:Int):SegD:=⟨H81,[(0,0),(4,0),(5,0),(6,0),(7,0)],cA 81 [1,1,1,0,1,0,0,1,0,0,1],mS [(0,LV.str x0),(4,LV.loc 0 0),(5,LV.int .u8 x5),(6,LV.str x6),(7,LV.int .i64 x7)] [Ob.cells [LV.int .i64 o0_0,LV.int .i64 o0_1,LV.str o0_2,LV.int .i64 o0_3,LV.int .i64 o0_4]]⟩
def FL (x0:List UInt8)(x5:Int)(x6:List UInt8)(x7 o0_0 o0_1:Int)(o0_2:List UInt8)(o0_3 o0_4:Int)(μ:Mu):=(Hu x0 x5 x6 x7 o0_0 o0_1 o0_2 o0_3 o0_4).seg ρ μ
def tQ (x0:List UInt8)(x5:Int)(x6:List UInt8)(x7 o0_0 o0_1:Int)(o0_2:List UInt8)(o0_3 o0_4:Int)(μ:Mu):St:= .exit 1 (mS [(0,LV.str x0),(4,LV.loc 0 0),(5,LV.int .u8 x5),(6,LV.str x6),(7,LV.int .i64 x7)] [Ob.cells [LV.int .i64 o0_0,LV.int .i64 o0_1,LV.str o0_2,LV.int .i64 o0_3,LV.int .i64 o0_4]]) μ
def Dm (x6:List UInt8)(x7 o0_0 o0_1:Int)(o0_2:List UInt8)(o0_3 o0_4:Int):SegD:=⟨H81,[(0,0),(4,0),(5,0),(6,0),(7,0)],cA 81 [1,1,1,0,1,0,0,1,0,0,1,1],mS [(4,LV.loc 0 0),(6,LV.str x6),(7,LV.int .i64 x7)] [Ob.cells [LV.int .i64 o0_0,LV.int .i64 o0_1,LV.str o0_2,LV.int .i64 o0_3,LV.int .i64 o0_4]]⟩
def uQ (x6:List UInt8)(x7 o0_0 o0_1:Int)(o0_2:List UInt8)(o0_3 o0_4:Int)(μ:Mu):=(Dm x6 x7 o0_0 o0_1 o0_2 o0_3 o0_4).seg ρ μ
def mU (o0_0 o0_1:Int)(o0_2:List UInt8)(o0_3 o0_4:Int)(μ:Mu):St:= .ret (mS [(4,LV.loc 0 0)] [Ob.cells [LV.int .i64 o0_0,LV.int .i64 o0_1,LV.str o0_2,LV.int .i64 o0_3,LV.int .i64 o0_4]]) μ
def Dy (x6:List UInt8)(x7 o0_0 o0_1:Int)(o0_2:List UInt8)(o0_3 o0_4:Int):SegD:=⟨H81,[(0,0),(4,0),(5,0),(6,0),(7,0)],cA 81 [1,1,1,0,1,0,0,1,0,0,1,1,1],mS [(4,LV.loc 0 0),(6,LV.str x6),(7,LV.int .i64 x7)] [Ob.cells [LV.int .i64 o0_0,LV.int .i64 o0_1,LV.str o0_2,LV.int .i64 o0_3,LV.int .i64 o0_4]]⟩
def I3 (x6:List UInt8)(x7 o0_0 o0_1:Int)(o0_2:List UInt8)(o0_3 o0_4:Int)(μ:Mu):=(Dy x6 x7 o0_0 o0_1 o0_2 o0_3 o0_4).seg ρ μ
def pY (o0_0 o0_1:Int)(o0_2:List UInt8)(o0_3 o0_4:Int)(μ:Mu):St:= .ret (mS [(4,LV.loc 0 0)] [Ob.cells [LV.int .i64 o0_0,LV.int .i64 o0_1,LV.str o0_2,LV.int .i64 o0_3,LV.int .i64 o0_4]]) μ
def Jb (pv:CV)(μ:Mu):St:= .panic pv (mS [] []) μ
def pm (o0_0 o0_1:Int)(o0_2:List UInt8)(o0_3 o0_4:Int)(μ:Mu):St:= .ret (mS [(4,LV.loc 0 0)] [Ob.cells [LV.int .i64 o0_0,LV.int .i64 o0_1,LV.str o0_2,LV.int .i64 o0_3,LV.int .i64 o0_4]]) μ
def tU (o0_0 o0_1:Int)(o0_2:List UInt8)(o0_3 o0_4:Int)(μ:Mu):St:= .ret (mS [(4,LV.loc 0 0)] [Ob.cells [LV.int .i64 o0_0,LV.int .i64 o0_1,LV.str o0_2,LV.int .i64 o0_3,LV.int .i64 o0_4]]) μ
def sQ (o0_0 o0_1:Int)(o0_2:List UInt8)(o0_3 o0_4:Int)(μ:Mu):St:= .exit 0 (mS [(4,LV.loc 0 0)] [Ob.cells [LV.int .i64 o0_0,LV.int .i64 o0_1,LV.str o0_2,LV.int .i64 o0_3,LV.int .i64 o0_4]]) μ
theorem KN (x6 x7 o0_0 o0_1 o0_2 o0_3 o0_4 μ):(Dy x6 x7 o0_0 o0_1 o0_2 o0_3 o0_4).sK ρ μ=
 callK (ρ.call 42 [LV.str x6] μ) (fun v6 μ7 =>
 opt (aI v6) fun s10=>
 some (pY (1:Int) (6:Int) s10 (IntKind.wrap .i64 (x7+(1:Int))) (0:Int) μ7)) (pX Jb):=by kernel_rfl
theorem Bx (o0_0 o0_1 o0_2 o0_3 o0_4 μ):kS ρ H81 [] [(0,0),(4,0),(5,0),(6,0),(7,0)] (pY o0_0 o0_1 o0_2 o0_3 o0_4 μ)=
 some (mU o0_0 o0_1 o0_2 o0_3 o0_4 μ):=by kernel_rfl
theorem JU (x6 x7 o0_0 o0_1 o0_2 o0_3 o0_4 μ):(Dm x6 x7 o0_0 o0_1 o0_2 o0_3 o0_4).sK ρ μ=
 cond (decide ((60 : Int) < (List.length x6 : Int))) (
 some (mU (0:Int) (0:Int) ([]:List UInt8) (0:Int) (8:Int) μ)) (
 opt (I3 ρ x6 x7 o0_0 o0_1 o0_2 o0_3 o0_4 μ) (kS ρ H81 [] [(0,0),(4,0),(5,0),(6,0),(7,0)])):=by kernel_rfl
theorem sn (o0_0 o0_1 o0_2 o0_3 o0_4 μ):kS ρ H81 [] [(0,0),(4,0),(5,0),(6,0),(7,0)] (mU o0_0 o0_1 o0_2 o0_3 o0_4 μ)=
 some (pm o0_0 o0_1 o0_2 o0_3 o0_4 μ):=by kernel_rfl
theorem DA (x0 x5 x6 x7 o0_0 o0_1 o0_2 o0_3 o0_4 μ):(Hu x0 x5 x6 x7 o0_0 o0_1 o0_2 o0_3 o0_4).sK ρ μ=
 cond (decide (IntKind.wrap .i64 (x7 + (1 : Int)) < (List.length x0 : Int))) (
 opt (aX x0 (IntKind.wrap .i64 (x7+(1:Int)))) fun y4=>
 cond (decide ((y4.toNat : Int) = x5)) (
 opt (bJ x0 x7 (IntKind.wrap .i64 (x7+(1:Int)))) fun s5=>
 az (a6 (List.length x6 + List.length s5)) (
 some (tQ x0 x5 (x6++s5) (IntKind.wrap .i64 (x7+(1:Int))) o0_0 o0_1 o0_2 o0_3 o0_4 μ))) (
 opt (uQ ρ x6 x7 o0_0 o0_1 o0_2 o0_3 o0_4 μ) (kS ρ H81 [] [(0,0),(4,0),(5,0),(6,0),(7,0)]))) (
 opt (uQ ρ x6 x7 o0_0 o0_1 o0_2 o0_3 o0_4 μ) (kS ρ H81 [] [(0,0),(4,0),(5,0),(6,0),(7,0)])):=by kernel_rfl
theorem Gg (x0 x5 x6 x7 o0_0 o0_1 o0_2 o0_3 o0_4 μ):kR ρ H81 [.block 1,.seq (cA 81 [1,1,1,0,1,0,0,1,1])] [(4,0)] (cA 81 [1,1,1,0,1,0,0]) (tQ x0 x5 x6 x7 o0_0 o0_1 o0_2 o0_3 o0_4 μ)=
 xR ρ x0 x5 x6 (IntKind.wrap .i64 (x7+(1:Int))) o0_0 o0_1 o0_2 o0_3 o0_4 μ:=by kernel_rfl
theorem uC (o0_0 o0_1 o0_2 o0_3 o0_4 μ):kR ρ H81 [.block 1,.seq (cA 81 [1,1,1,0,1,0,0,1,1])] [(4,0)] (cA 81 [1,1,1,0,1,0,0]) (pm o0_0 o0_1 o0_2 o0_3 o0_4 μ)=
 some (tU o0_0 o0_1 o0_2 o0_3 o0_4 μ):=by kernel_rfl
theorem DE (x0 x5 x6 x7 o0_0 o0_1 o0_2 o0_3 o0_4 μ):(GR x0 x5 x6 x7 o0_0 o0_1 o0_2 o0_3 o0_4).rK ρ μ=
 cond (decide (x7 < (List.length x0 : Int))) (
 opt (aX x0 x7) fun y2=>
 cond (!decide ((y2.toNat : Int) = x5)) (
 opt (bJ x0 x7 (IntKind.wrap .i64 (x7+(1:Int)))) fun s3=>
 az (a6 (List.length x6 + List.length s3)) (
 xR ρ x0 x5 (x6++s3) (IntKind.wrap .i64 (x7+(1:Int))) o0_0 o0_1 o0_2 o0_3 o0_4 μ)) (
 opt (FL ρ x0 x5 x6 x7 o0_0 o0_1 o0_2 o0_3 o0_4 μ) (kR ρ H81 [.block 1,.seq (cA 81 [1,1,1,0,1,0,0,1,1])] [(4,0)] (cA 81 [1,1,1,0,1,0,0])))) (
 some (sQ o0_0 o0_1 o0_2 o0_3 o0_4 μ)):=by kernel_rfl
theorem uy (o0_0 o0_1 o0_2 o0_3 o0_4 μ):kB ρ 81 H81 [.block 0,.seq (cA 81 [1,1,1,1])] (tU o0_0 o0_1 o0_2 o0_3 o0_4 μ)=
 some (.ret (LV.cv (CV.agg [CV.int .i64 o0_0,CV.int .i64 o0_1,CV.str o0_2,CV.int .i64 o0_3,CV.int .i64 o0_4])) μ):=by kernel_rfl
theorem E6 (o0_0 o0_1 o0_2 o0_3 o0_4 μ):kB ρ 81 H81 [.block 0,.seq (cA 81 [1,1,1,1])] (sQ o0_0 o0_1 o0_2 o0_3 o0_4 μ)=
 some (.ret (LV.cv (CV.agg [CV.int .i64 (0:Int),CV.int .i64 (0:Int),CV.str ([]:List UInt8),CV.int .i64 (0:Int),CV.int .i64 (7:Int)])) μ):=by kernel_rfl
theorem QU (a b μ):aG E ρ 81 [LV.str a,LV.int .i64 b] μ=
 opt (aX a b) fun y1=>
 opt (xR ρ a (y1.toNat:Int) ([]:List UInt8) (IntKind.wrap .i64 (b+(1:Int))) (0:Int) (0:Int) ([]:List UInt8) (0:Int) (0:Int) μ) (kB ρ 81 H81 [.block 0,.seq (cA 81 [1,1,1,1])]):=by kernel_rfl
theorem Q7 (a μ):aG E ρ 85 [LV.str a] μ=
 callK (ρ.call 43 [LV.str a, LV.cv (CV.clo 122 [])] μ) (fun v1 μ2 =>
 opt (aN v1) fun b5=>
 some (.ret (LV.bool (!b5)) μ2)) pP:=by kernel_rfl
theorem QD (a μ):aG E ρ 86 [LV.str a] μ=
 callK (ρ.call 84 [LV.str a, LV.str ([39] : List UInt8), LV.str ([39, 39] : List UInt8)] μ) (fun v1 μ2 =>
 opt (aI v1) fun s5=>
 az (a6 (List.length ([39] : List UInt8) + List.length s5)) (
 az (a6 (List.length (([39] : List UInt8) ++ s5) + List.length ([39] : List UInt8))) (
 some (.ret (LV.cv (CV.agg [CV.int .i64 (1:Int),CV.int .i64 (6:Int),CV.str ((([39]:List UInt8)++s5)++([39]:List UInt8))])) μ2)))) pP:=by kernel_rfl
theorem Q9 (a μ):aG E ρ 90 [LV.int .u8 a] μ=
 cond (decide ((97 : Int) ≤ a)) (
 cond (decide (a ≤ (122 : Int))) (
 some (.ret (LV.bool true) μ)) (
 cond (decide ((65 : Int) ≤ a)) (
 some (.ret (LV.bool (decide (a≤(90:Int)))) μ)) (
 some (.ret (LV.bool false) μ)))) (
 cond (decide ((65 : Int) ≤ a)) (
 some (.ret (LV.bool (decide (a≤(90:Int)))) μ)) (
 some (.ret (LV.bool false) μ))):=by kernel_rfl
theorem QL (a μ):aG E ρ 93 [LV.int .u8 a] μ=
 callK (ρ.call 90 [LV.int .u8 a] μ) (fun v1 μ2 =>
 opt (aN v1) fun b5=>
 cond (b5) (
 some (.ret (LV.bool true) μ2)) (
 callK (ρ.call 132 [LV.int .u8 a] μ2) (fun v6 μ7 =>
 opt (aN v6) fun b10=>
 cond (b10) (
 some (.ret (LV.bool true) μ7)) (
 some (.ret (LV.bool (decide (a=(95:Int)))) μ7))) pP)) pP:=by kernel_rfl
def GO (x0:List CV)(x1:List UInt8)(x7 x8:Int):SegD:=⟨H94,[],cA 94 [1,0,1,0,0],mS [(0,LV.cv (CV.sl x0)),(1,LV.str x1),(7,LV.int .i64 x7),(8,LV.int .i64 x8)] []⟩
def Gm (x0:List CV)(x1:List UInt8)(x7 x8:Int)(μ:Mu):=(GO x0 x1 x7 x8).loop ρ μ
def sS (x4:Int)(μ:Mu):St:= .ret (mS [(4,LV.int .i64 x4)] []) μ
def tq (μ:Mu):St:= .exit 0 (mS [] []) μ
theorem Da (x0 x1 x7 x8 μ):(GO x0 x1 x7 x8).rK ρ μ=
 cond (decide (x8 < x7)) (
 opt (dZ x0 x8) fun c1=>
 opt (aI (LV.cv c1)) fun s2=>
 cond (decide (x1 = s2)) (
 some (sS x8 μ)) (
 Gm ρ x0 x1 x7 (IntKind.wrap .i64 (x8+(1:Int))) μ)) (
 some (tq μ)):=by kernel_rfl
theorem FG (x4 μ):kB ρ 94 H94 [.block 0,.seq (cA 94 [1,1])] (sS x4 μ)=
 some (.ret (LV.int .i64 x4) μ):=by kernel_rfl
theorem Fo (μ):kB ρ 94 H94 [.block 0,.seq (cA 94 [1,1])] (tq μ)=
 some (.ret (LV.int .i64 (-1:Int)) μ):=by kernel_rfl
theorem Ra (a b μ):aG E ρ 94 [LV.cv (CV.sl a),LV.str b] μ=
 opt (Gm ρ a b (List.length a:Int) (0:Int) μ) (kB ρ 94 H94 [.block 0,.seq (cA 94 [1,1])]):=by kernel_rfl
theorem QS (a μ):aG E ρ 96 [LV.int .u8 a] μ=
 cond (decide ((65 : Int) ≤ a)) (
 cond (decide (a ≤ (90 : Int))) (
 some (.ret (LV.bool true) μ)) (
 cond (decide ((97 : Int) ≤ a)) (
 some (.ret (LV.bool (decide (a≤(122:Int)))) μ)) (
 some (.ret (LV.bool false) μ)))) (
 cond (decide ((97 : Int) ≤ a)) (
 some (.ret (LV.bool (decide (a≤(122:Int)))) μ)) (
 some (.ret (LV.bool false) μ))):=by kernel_rfl
def HY (x3:Nat)(x4:Int)(o0:List CV):SegD:=⟨H97,[(3,0)],cA 97 [1,1,0,1,0,0],mS [(3,LV.lsl 0 0 x3),(4,LV.int .i64 x4)] [Ob.arr 1 o0]⟩
def rx (x3:Nat)(x4:Int)(o0:List CV)(μ:Mu):=(HY x3 x4 o0).loop ρ μ
def ow (x3:Nat)(o0:List CV)(μ:Mu):St:= .exit 0 (mS [(3,LV.lsl 0 0 x3)] [Ob.arr 1 o0]) μ
theorem Df (x3 x4 o0 μ):(HY x3 x4 o0).rK ρ μ=
 cond (decide (x4 < (x3 : Int))) (
 az (dW x4 x3) (
 opt (bv E.P 5 (Ob.arr 1 o0) (0+(x4).toNat*1)) fun v1=>
 opt (aE .u8 v1) fun n2=>
 cond (decide ((97 : Int) ≤ n2)) (
 az (dW x4 x3) (
 opt (bv E.P 5 (Ob.arr 1 o0) (0+(x4).toNat*1)) fun v3=>
 opt (aE .u8 v3) fun n4=>
 cond (decide (n4 ≤ (122 : Int))) (
 az (dW x4 x3) (
 opt (bv E.P 5 (Ob.arr 1 o0) (0+(x4).toNat*1)) fun v5=>
 opt (aE .u8 v5) fun n6=>
 az (dW x4 x3) (
 az (eX 1 (CV.int .u8 (IntKind.wrap .u8 (IntKind.wrap .u8 (n6 - (97 : Int)) + (65 : Int)))) && Nat.ble (0 + (x4).toNat * 1 + 1) (List.length o0)) (
 rx ρ x3 (IntKind.wrap .i64 (x4+(1:Int))) (cr o0 (0+(x4).toNat*1) (CV.cells (CV.int .u8 (IntKind.wrap .u8 (IntKind.wrap .u8 (n6-(97:Int))+(65:Int)))))) μ)))) (
 rx ρ x3 (IntKind.wrap .i64 (x4+(1:Int))) o0 μ))) (
 rx ρ x3 (IntKind.wrap .i64 (x4+(1:Int))) o0 μ))) (
 some (ow x3 o0 μ)):=by kernel_rfl
theorem Fp (x3 o0 μ):kB ρ 97 H97 [.block 0,.seq (cA 97 [1,1,1])] (ow x3 o0 μ)=
 az (Nat.ble (0 + x3) (List.length o0)) (
 opt (bd (List.take x3 (List.drop 0 o0))) fun s7=>
 some (.ret (LV.str s7) μ)):=by kernel_rfl
theorem Qy (a μ):aG E ρ 97 [LV.str a] μ=
 az (a6 (List.length a)) (
 opt (rx ρ (List.length a) (0:Int) (bh a) μ) (kB ρ 97 H97 [.block 0,.seq (cA 97 [1,1,1])])):=by kernel_rfl
def Jz (x0:List UInt8)(x1 x5 x6:Int)(x7:Bool)(x30:List CV)(x31 x32 o0_0 o0_1:Int)(o0_2:List UInt8)(o0_3 o0_4:Int):SegD:=⟨H98,[(0,0),(1,0),(4,0),(5,0),(6,0),(7,0)],cA 98 [1,1,1,1,0,1,0,0],mS [(0,LV.str x0),(1,LV.int .i64 x1),(4,LV.loc 0 0),(5,LV.int .i64 x5),(6,LV.int .i64 x6),(7,LV.bool x7),(30,LV.cv (CV.sl x30)),(31,LV.int .i64 x31),(32,LV.int .i64 x32)] [Ob.cells [LV.int .i64 o0_0,LV.int .i64 o0_1,LV.str o0_2,LV.int .i64 o0_3,LV.int .i64 o0_4]]⟩
def uv (x0:List UInt8)(x1 x5 x6:Int)(x7:Bool)(x30:List CV)(x31 x32 o0_0 o0_1:Int)(o0_2:List UInt8)(o0_3 o0_4:Int)(μ:Mu):=(Jz x0 x1 x5 x6 x7 x30 x31 x32 o0_0 o0_1 o0_2 o0_3 o0_4).loop ρ μ
def Kd (pv:CV)(μ:Mu):St:= .panic pv (mS [] []) μ
def sP (x0:List UInt8)(x1 x5 x6:Int)(x7:Bool)(o0_0 o0_1:Int)(o0_2:List UInt8)(o0_3 o0_4:Int)(μ:Mu):St:= .exit 0 (mS [(0,LV.str x0),(1,LV.int .i64 x1),(4,LV.loc 0 0),(5,LV.int .i64 x5),(6,LV.int .i64 x6),(7,LV.bool x7)] [Ob.cells [LV.int .i64 o0_0,LV.int .i64 o0_1,LV.str o0_2,LV.int .i64 o0_3,LV.int .i64 o0_4]]) μ
def CS (x0:List UInt8)(x1 x5 x6:Int)(x7 x10:Bool)(x11 o0_0 o0_1:Int)(o0_2:List UInt8)(o0_3 o0_4:Int):SegD:=⟨H98,[(4,0)],cA 98 [1,1,1,1,1,1,1],mS [(0,LV.str x0),(1,LV.int .i64 x1),(4,LV.loc 0 0),(5,LV.int .i64 x5),(6,LV.int .i64 x6),(7,LV.bool x7),(10,LV.bool x10),(11,LV.int .i64 x11)] [Ob.cells [LV.int .i64 o0_0,LV.int .i64 o0_1,LV.str o0_2,LV.int .i64 o0_3,LV.int .i64 o0_4]]⟩
def nJ (x0:List UInt8)(x1 x5 x6:Int)(x7 x10:Bool)(x11 o0_0 o0_1:Int)(o0_2:List UInt8)(o0_3 o0_4:Int)(μ:Mu):=(CS x0 x1 x5 x6 x7 x10 x11 o0_0 o0_1 o0_2 o0_3 o0_4).seg ρ μ
def DU (x0:List UInt8)(x1 x5 x6:Int)(x10:Bool)(x11 x12 x13:Int)(x14:Bool)(x15 o0_0 o0_1:Int)(o0_2:List UInt8)(o0_3 o0_4:Int):SegD:=⟨H98,[(0,0),(1,0),(4,0),(5,0),(6,0),(10,0),(11,0),(12,0),(13,0),(14,0)],cA 98 [1,1,1,1,1,1,1,1,1,0,1,0,1,1],mS [(0,LV.str x0),(1,LV.int .i64 x1),(4,LV.loc 0 0),(5,LV.int .i64 x5),(6,LV.int .i64 x6),(10,LV.bool x10),(11,LV.int .i64 x11),(12,LV.int .i64 x12),(13,LV.int .i64 x13),(14,LV.bool x14),(15,LV.int .i64 x15)] [Ob.cells [LV.int .i64 o0_0,LV.int .i64 o0_1,LV.str o0_2,LV.int .i64 o0_3,LV.int .i64 o0_4]]⟩
def cH (x0:List UInt8)(x1 x5 x6:Int)(x10:Bool)(x11 x12 x13:Int)(x14:Bool)(x15 o0_0 o0_1:Int)(o0_2:List UInt8)(o0_3 o0_4:Int)(μ:Mu):=(DU x0 x1 x5 x6 x10 x11 x12 x13 x14 x15 o0_0 o0_1 o0_2 o0_3 o0_4).seg ρ μ
def qS (o0_0 o0_1:Int)(o0_2:List UInt8)(o0_3 o0_4:Int)(μ:Mu):St:= .ret (mS [(4,LV.loc 0 0)] [Ob.cells [LV.int .i64 o0_0,LV.int .i64 o0_1,LV.str o0_2,LV.int .i64 o0_3,LV.int .i64 o0_4]]) μ
def Dg (x0:List UInt8)(x1 x5 x6:Int)(x10:Bool)(x11 x12 x15 x16 o0_0 o0_1:Int)(o0_2:List UInt8)(o0_3 o0_4:Int):SegD:=⟨H98,[(0,0),(1,0),(4,0),(5,0),(6,0),(10,0),(11,0),(12,0),(13,0),(14,0)],cA 98 [1,1,1,1,1,1,1,1,1,0,1,0,1,1,1,1,0,1],mS [(0,LV.str x0),(1,LV.int .i64 x1),(4,LV.loc 0 0),(5,LV.int .i64 x5),(6,LV.int .i64 x6),(10,LV.bool x10),(11,LV.int .i64 x11),(12,LV.int .i64 x12),(15,LV.int .i64 x15),(16,LV.int .i64 x16)] [Ob.cells [LV.int .i64 o0_0,LV.int .i64 o0_1,LV.str o0_2,LV.int .i64 o0_3,LV.int .i64 o0_4]]⟩
def Hk (x0:List UInt8)(x1 x5 x6:Int)(x10:Bool)(x11 x12 x15 x16 o0_0 o0_1:Int)(o0_2:List UInt8)(o0_3 o0_4:Int)(μ:Mu):=(Dg x0 x1 x5 x6 x10 x11 x12 x15 x16 o0_0 o0_1 o0_2 o0_3 o0_4).seg ρ μ
def DG (x0:List UInt8)(x1 x5 x6:Int)(x10:Bool)(x11 x12 x13:Int)(x14:Bool)(x15 x16 o0_0 o0_1:Int)(o0_2:List UInt8)(o0_3 o0_4:Int):SegD:=⟨H98,[(0,0),(1,0),(4,0),(5,0),(6,0),(10,0),(11,0),(12,0),(13,0),(14,0)],cA 98 [1,1,1,1,1,1,1,1,1,0,1,0,1,1,1,1,0,1,1,1,1],mS [(0,LV.str x0),(1,LV.int .i64 x1),(4,LV.loc 0 0),(5,LV.int .i64 x5),(6,LV.int .i64 x6),(10,LV.bool x10),(11,LV.int .i64 x11),(12,LV.int .i64 x12),(13,LV.int .i64 x13),(14,LV.bool x14),(15,LV.int .i64 x15),(16,LV.int .i64 x16)] [Ob.cells [LV.int .i64 o0_0,LV.int .i64 o0_1,LV.str o0_2,LV.int .i64 o0_3,LV.int .i64 o0_4]]⟩
def AC (x0:List UInt8)(x1 x5 x6:Int)(x10:Bool)(x11 x12 x13:Int)(x14:Bool)(x15 x16 o0_0 o0_1:Int)(o0_2:List UInt8)(o0_3 o0_4:Int)(μ:Mu):=(DG x0 x1 x5 x6 x10 x11 x12 x13 x14 x15 x16 o0_0 o0_1 o0_2 o0_3 o0_4).seg ρ μ
def kq (x0:List UInt8)(x1 x5 x6:Int)(x10:Bool)(x11 x12 x13:Int)(x14:Bool)(o0_0 o0_1:Int)(o0_2:List UInt8)(o0_3 o0_4:Int)(μ:Mu):St:= .norm (mS [(0,LV.str x0),(1,LV.int .i64 x1),(4,LV.loc 0 0),(5,LV.int .i64 x5),(6,LV.int .i64 x6),(10,LV.bool x10),(11,LV.int .i64 x11),(12,LV.int .i64 x12),(13,LV.int .i64 x13),(14,LV.bool x14)] [Ob.cells [LV.int .i64 o0_0,LV.int .i64 o0_1,LV.str o0_2,LV.int .i64 o0_3,LV.int .i64 o0_4]]) μ
def qB (x0:List UInt8)(x1 x5 x6:Int)(x10:Bool)(x11 x12 x13:Int)(x14:Bool)(o0_0 o0_1:Int)(o0_2:List UInt8)(o0_3 o0_4:Int)(μ:Mu):St:= .norm (mS [(0,LV.str x0),(1,LV.int .i64 x1),(4,LV.loc 0 0),(5,LV.int .i64 x5),(6,LV.int .i64 x6),(10,LV.bool x10),(11,LV.int .i64 x11),(12,LV.int .i64 x12),(13,LV.int .i64 x13),(14,LV.bool x14)] [Ob.cells [LV.int .i64 o0_0,LV.int .i64 o0_1,LV.str o0_2,LV.int .i64 o0_3,LV.int .i64 o0_4]]) μ
def IW (pv:CV)(μ:Mu):St:= .panic pv (mS [] []) μ
def kh (x0:List UInt8)(x1 x5 x6:Int)(x10:Bool)(x11 x12 x13:Int)(x14:Bool)(o0_0 o0_1:Int)(o0_2:List UInt8)(o0_3 o0_4:Int)(μ:Mu):St:= .norm (mS [(0,LV.str x0),(1,LV.int .i64 x1),(4,LV.loc 0 0),(5,LV.int .i64 x5),(6,LV.int .i64 x6),(10,LV.bool x10),(11,LV.int .i64 x11),(12,LV.int .i64 x12),(13,LV.int .i64 x13),(14,LV.bool x14)] [Ob.cells [LV.int .i64 o0_0,LV.int .i64 o0_1,LV.str o0_2,LV.int .i64 o0_3,LV.int .i64 o0_4]]) μ
def Hg (pv:CV)(μ:Mu):St:= .panic pv (mS [] []) μ
def fA (o0_0 o0_1:Int)(o0_2:List UInt8)(o0_3 o0_4:Int)(μ:Mu):St:= .ret (mS [(4,LV.loc 0 0)] [Ob.cells [LV.int .i64 o0_0,LV.int .i64 o0_1,LV.str o0_2,LV.int .i64 o0_3,LV.int .i64 o0_4]]) μ
def Du (x0:List UInt8)(x1 x5 x6:Int)(x10:Bool)(x11 x12 x13:Int)(x14:Bool)(o0_0 o0_1:Int)(o0_2:List UInt8)(o0_3 o0_4:Int):SegD:=⟨H98,[(4,0)],cA 98 [1,1,1,1,1,1,1,1,1,1],mS [(0,LV.str x0),(1,LV.int .i64 x1),(4,LV.loc 0 0),(5,LV.int .i64 x5),(6,LV.int .i64 x6),(10,LV.bool x10),(11,LV.int .i64 x11),(12,LV.int .i64 x12),(13,LV.int .i64 x13),(14,LV.bool x14)] [Ob.cells [LV.int .i64 o0_0,LV.int .i64 o0_1,LV.str o0_2,LV.int .i64 o0_3,LV.int .i64 o0_4]]⟩
def ng (x0:List UInt8)(x1 x5 x6:Int)(x10:Bool)(x11 x12 x13:Int)(x14:Bool)(o0_0 o0_1:Int)(o0_2:List UInt8)(o0_3 o0_4:Int)(μ:Mu):=(Du x0 x1 x5 x6 x10 x11 x12 x13 x14 o0_0 o0_1 o0_2 o0_3 o0_4).seg ρ μ
def iK (o0_0 o0_1:Int)(o0_2:List UInt8)(o0_3 o0_4:Int)(μ:Mu):St:= .ret (mS [(4,LV.loc 0 0)] [Ob.cells [LV.int .i64 o0_0,LV.int .i64 o0_1,LV.str o0_2,LV.int .i64 o0_3,LV.int .i64 o0_4]]) μ
def De (x0:List UInt8)(x1 x5 x6 o0_0 o0_1:Int)(o0_2:List UInt8)(o0_3 o0_4:Int):SegD:=⟨H98,[(0,0),(1,0),(4,0),(5,0),(6,0),(10,0),(11,0),(12,0),(13,0)],cA 98 [1,1,1,1,1,1,1,1,1,1,0,1,0,1],mS [(0,LV.str x0),(1,LV.int .i64 x1),(4,LV.loc 0 0),(5,LV.int .i64 x5),(6,LV.int .i64 x6)] [Ob.cells [LV.int .i64 o0_0,LV.int .i64 o0_1,LV.str o0_2,LV.int .i64 o0_3,LV.int .i64 o0_4]]⟩
def GJ (x0:List UInt8)(x1 x5 x6 o0_0 o0_1:Int)(o0_2:List UInt8)(o0_3 o0_4:Int)(μ:Mu):=(De x0 x1 x5 x6 o0_0 o0_1 o0_2 o0_3 o0_4).seg ρ μ
def kC (o0_0 o0_1:Int)(o0_2:List UInt8)(o0_3 o0_4:Int)(μ:Mu):St:= .ret (mS [(4,LV.loc 0 0)] [Ob.cells [LV.int .i64 o0_0,LV.int .i64 o0_1,LV.str o0_2,LV.int .i64 o0_3,LV.int .i64 o0_4]]) μ
def JD (pv:CV)(μ:Mu):St:= .panic pv (mS [] []) μ
def DM (x0:List UInt8)(x1 x5 x6:Int)(x10:Bool)(x11 x12 x13 o0_0 o0_1:Int)(o0_2:List UInt8)(o0_3 o0_4:Int):SegD:=⟨H98,[(4,0)],cA 98 [1,1,1,1,1,1,1,1,1,1,1],mS [(0,LV.str x0),(1,LV.int .i64 x1),(4,LV.loc 0 0),(5,LV.int .i64 x5),(6,LV.int .i64 x6),(10,LV.bool x10),(11,LV.int .i64 x11),(12,LV.int .i64 x12),(13,LV.int .i64 x13)] [Ob.cells [LV.int .i64 o0_0,LV.int .i64 o0_1,LV.str o0_2,LV.int .i64 o0_3,LV.int .i64 o0_4]]⟩
def ur (x0:List UInt8)(x1 x5 x6:Int)(x10:Bool)(x11 x12 x13 o0_0 o0_1:Int)(o0_2:List UInt8)(o0_3 o0_4:Int)(μ:Mu):=(DM x0 x1 x5 x6 x10 x11 x12 x13 o0_0 o0_1 o0_2 o0_3 o0_4).seg ρ μ
def CM (x0:List UInt8)(x1 x5 x6 x12 x13:Int)(x18:List UInt8)(o0_0 o0_1:Int)(o0_2:List UInt8)(o0_3 o0_4:Int):SegD:=⟨H98,[(4,0)],cA 98 [1,1,1,1,1,1,1,1,1,1,1,1,1],mS [(0,LV.str x0),(1,LV.int .i64 x1),(4,LV.loc 0 0),(5,LV.int .i64 x5),(6,LV.int .i64 x6),(12,LV.int .i64 x12),(13,LV.int .i64 x13),(18,LV.str x18)] [Ob.cells [LV.int .i64 o0_0,LV.int .i64 o0_1,LV.str o0_2,LV.int .i64 o0_3,LV.int .i64 o0_4]]⟩
def ye (x0:List UInt8)(x1 x5 x6 x12 x13:Int)(x18:List UInt8)(o0_0 o0_1:Int)(o0_2:List UInt8)(o0_3 o0_4:Int)(μ:Mu):=(CM x0 x1 x5 x6 x12 x13 x18 o0_0 o0_1 o0_2 o0_3 o0_4).seg ρ μ
def kI (o0_0 o0_1:Int)(o0_2:List UInt8)(o0_3 o0_4:Int)(μ:Mu):St:= .ret (mS [(4,LV.loc 0 0)] [Ob.cells [LV.int .i64 o0_0,LV.int .i64 o0_1,LV.str o0_2,LV.int .i64 o0_3,LV.int .i64 o0_4]]) μ
def Dz (x6 x12 x13:Int)(x19 x20:List UInt8)(o0_0 o0_1:Int)(o0_2:List UInt8)(o0_3 o0_4:Int):SegD:=⟨H98,[(4,0)],cA 98 [1,1,1,1,1,1,1,1,1,1,1,1,1,1,1],mS [(4,LV.loc 0 0),(6,LV.int .i64 x6),(12,LV.int .i64 x12),(13,LV.int .i64 x13),(19,LV.str x19),(20,LV.str x20)] [Ob.cells [LV.int .i64 o0_0,LV.int .i64 o0_1,LV.str o0_2,LV.int .i64 o0_3,LV.int .i64 o0_4]]⟩
def IQ (x6 x12 x13:Int)(x19 x20:List UInt8)(o0_0 o0_1:Int)(o0_2:List UInt8)(o0_3 o0_4:Int)(μ:Mu):=(Dz x6 x12 x13 x19 x20 o0_0 o0_1 o0_2 o0_3 o0_4).seg ρ μ
def kf (o0_0 o0_1:Int)(o0_2:List UInt8)(o0_3 o0_4:Int)(μ:Mu):St:= .ret (mS [(4,LV.loc 0 0)] [Ob.cells [LV.int .i64 o0_0,LV.int .i64 o0_1,LV.str o0_2,LV.int .i64 o0_3,LV.int .i64 o0_4]]) μ
def xj (pv:CV)(μ:Mu):St:= .panic pv (mS [] []) μ
def iT (pv:CV)(μ:Mu):St:= .panic pv (mS [] []) μ
def mr (o0_0 o0_1:Int)(o0_2:List UInt8)(o0_3 o0_4:Int)(μ:Mu):St:= .ret (mS [(4,LV.loc 0 0)] [Ob.cells [LV.int .i64 o0_0,LV.int .i64 o0_1,LV.str o0_2,LV.int .i64 o0_3,LV.int .i64 o0_4]]) μ
theorem C3 (x0 x1 x5 x6 x7 x30 x31 x32 o0_0 o0_1 o0_2 o0_3 o0_4 μ):(Jz x0 x1 x5 x6 x7 x30 x31 x32 o0_0 o0_1 o0_2 o0_3 o0_4).rK ρ μ=
 cond (decide (x32 < x31)) (
 opt (dZ x30 x32) fun c11=>
 opt (aI (LV.cv c11)) fun s12=>
 cond (x7) (
 uv ρ x0 x1 x5 x6 true x30 x31 (IntKind.wrap .i64 (x32+(1:Int))) o0_0 o0_1 o0_2 o0_3 o0_4 μ) (
 cond (decide ((0 : Int) < x5)) (
 callK (ρ.call 99 [LV.str x0, LV.int .i64 x6, LV.str s12] μ) (fun v13 μ14 =>
 opt (aN v13) fun b17=>
 uv ρ x0 x1 x5 x6 b17 x30 x31 (IntKind.wrap .i64 (x32+(1:Int))) o0_0 o0_1 o0_2 o0_3 o0_4 μ14) (pX Kd)) (
 uv ρ x0 x1 x5 x6 false x30 x31 (IntKind.wrap .i64 (x32+(1:Int))) o0_0 o0_1 o0_2 o0_3 o0_4 μ))) (
 some (sP x0 x1 x5 x6 x7 o0_0 o0_1 o0_2 o0_3 o0_4 μ)):=by kernel_rfl
theorem LC (x0 x1 x5 x6 x10 x11 x12 x13 x14 x15 x16 o0_0 o0_1 o0_2 o0_3 o0_4 μ):(DG x0 x1 x5 x6 x10 x11 x12 x13 x14 x15 x16 o0_0 o0_1 o0_2 o0_3 o0_4).sK ρ μ=
 opt (aX x0 x6) fun y38=>
 cond (decide ((y38.toNat : Int) = (68 : Int))) (
 some (kq x0 x1 x5 (IntKind.wrap .i64 (x15+x16)) x10 x11 (2:Int) x13 x14 o0_0 o0_1 o0_2 o0_3 o0_4 μ)) (
 opt (aX x0 x6) fun y39=>
 cond (decide ((y39.toNat : Int) = (100 : Int))) (
 some (kq x0 x1 x5 (IntKind.wrap .i64 (x15+x16)) x10 x11 (2:Int) x13 x14 o0_0 o0_1 o0_2 o0_3 o0_4 μ)) (
 some (kq x0 x1 x5 (IntKind.wrap .i64 (x15+x16)) x10 x11 x12 x13 x14 o0_0 o0_1 o0_2 o0_3 o0_4 μ))):=by kernel_rfl
theorem sc (x0 x1 x5 x6 x10 x11 x12 x13 x14 o0_0 o0_1 o0_2 o0_3 o0_4 μ):kS ρ H98 [] [(0,0),(1,0),(4,0),(5,0),(6,0),(10,0),(11,0),(12,0),(13,0),(14,0)] (kq x0 x1 x5 x6 x10 x11 x12 x13 x14 o0_0 o0_1 o0_2 o0_3 o0_4 μ)=
 some (qB x0 x1 x5 x6 x10 x11 x12 x13 x14 o0_0 o0_1 o0_2 o0_3 o0_4 μ):=by kernel_rfl
theorem LG (x0 x1 x5 x6 x10 x11 x12 x15 x16 o0_0 o0_1 o0_2 o0_3 o0_4 μ):(Dg x0 x1 x5 x6 x10 x11 x12 x15 x16 o0_0 o0_1 o0_2 o0_3 o0_4).sK ρ μ=
 opt (bJ x0 x15 (IntKind.wrap .i64 (x15+x16))) fun s31=>
 callK (ρ.call 120 [LV.str s31] μ) (fun v32 μ33 =>
 opt (aE .i64 v32) fun n36=>
 opt (aX x0 (IntKind.wrap .i64 (x15-(1:Int)))) fun y37=>
 cond (decide ((y37.toNat : Int) = (45 : Int))) (
 opt (AC ρ x0 x1 x5 x6 x10 x11 x12 (IntKind.wrap .i64 (0-n36)) true x15 x16 o0_0 o0_1 o0_2 o0_3 o0_4 μ33) (kS ρ H98 [] [(0,0),(1,0),(4,0),(5,0),(6,0),(10,0),(11,0),(12,0),(13,0),(14,0)])) (
 opt (AC ρ x0 x1 x5 x6 x10 x11 x12 n36 true x15 x16 o0_0 o0_1 o0_2 o0_3 o0_4 μ33) (kS ρ H98 [] [(0,0),(1,0),(4,0),(5,0),(6,0),(10,0),(11,0),(12,0),(13,0),(14,0)]))) (pX IW):=by kernel_rfl
theorem A1 (x0 x1 x5 x6 x10 x11 x12 x13 x14 o0_0 o0_1 o0_2 o0_3 o0_4 μ):kS ρ H98 [] [(0,0),(1,0),(4,0),(5,0),(6,0),(10,0),(11,0),(12,0),(13,0),(14,0)] (qB x0 x1 x5 x6 x10 x11 x12 x13 x14 o0_0 o0_1 o0_2 o0_3 o0_4 μ)=
 some (kh x0 x1 x5 x6 x10 x11 x12 x13 x14 o0_0 o0_1 o0_2 o0_3 o0_4 μ):=by kernel_rfl
theorem Ka (x0 x1 x5 x6 x10 x11 x12 x13 x14 x15 o0_0 o0_1 o0_2 o0_3 o0_4 μ):(DU x0 x1 x5 x6 x10 x11 x12 x13 x14 x15 o0_0 o0_1 o0_2 o0_3 o0_4).sK ρ μ=
 callK (ρ.call 47 [LV.str x0, LV.int .i64 x15] μ) (fun v26 μ27 =>
 opt (aE .i64 v26) fun n30=>
 cond (decide ((0 : Int) < n30)) (
 cond (decide ((3 : Int) < n30)) (
 some (qS (0:Int) (0:Int) ([]:List UInt8) (0:Int) (7:Int) μ27)) (
 opt (Hk ρ x0 x1 x5 x6 x10 x11 x12 x15 n30 o0_0 o0_1 o0_2 o0_3 o0_4 μ27) (kS ρ H98 [] [(0,0),(1,0),(4,0),(5,0),(6,0),(10,0),(11,0),(12,0),(13,0),(14,0)]))) (
 some (kh x0 x1 x5 x6 x10 x11 x12 x13 x14 o0_0 o0_1 o0_2 o0_3 o0_4 μ27))) (pX Hg):=by kernel_rfl
theorem AX (o0_0 o0_1 o0_2 o0_3 o0_4 μ):kS ρ H98 [.seq (cA 98 [1,1,1,1,1,1,1,1,1,1])] [(4,0)] (qS o0_0 o0_1 o0_2 o0_3 o0_4 μ)=
 some (fA o0_0 o0_1 o0_2 o0_3 o0_4 μ):=by kernel_rfl
theorem J6 (x0 x1 x5 x6 o0_0 o0_1 o0_2 o0_3 o0_4 μ):(De x0 x1 x5 x6 o0_0 o0_1 o0_2 o0_3 o0_4).sK ρ μ=
 opt (bJ x0 x1 (IntKind.wrap .i64 (x1+x5))) fun s43=>
 callK (ρ.call 69 [LV.str s43] μ) (fun v44 μ45 =>
 opt (aI v44) fun s48=>
 cond (decide ((List.length s48 : Int) = (10 : Int))) (
 cond (!(Op.bytesLess s48 ([50, 49, 52, 55, 52, 56, 51, 54, 52, 55] : List UInt8) || decide (s48 = ([50, 49, 52, 55, 52, 56, 51, 54, 52, 55] : List UInt8)))) (
 some (kC (0:Int) (0:Int) ([]:List UInt8) (0:Int) (28:Int) μ45)) (
 some (kC (1:Int) (0:Int) s48 x6 (0:Int) μ45))) (
 some (kC (1:Int) (0:Int) s48 x6 (0:Int) μ45))) (pX JD):=by kernel_rfl
theorem se (o0_0 o0_1 o0_2 o0_3 o0_4 μ):kS ρ H98 [.seq (cA 98 [1,1,1,1,1,1,1,1,1,1,1])] [(4,0)] (kC o0_0 o0_1 o0_2 o0_3 o0_4 μ)=
 some (iK o0_0 o0_1 o0_2 o0_3 o0_4 μ):=by kernel_rfl
theorem Ll (x6 x12 x13 x19 x20 o0_0 o0_1 o0_2 o0_3 o0_4 μ):(Dz x6 x12 x13 x19 x20 o0_0 o0_1 o0_2 o0_3 o0_4).sK ρ μ=
 az (a6 (List.length x19 + List.length ([46] : List UInt8))) (
 az (a6 (List.length (x19 ++ ([46] : List UInt8)) + List.length x20)) (
 cond (decide (x12 = (2 : Int))) (
 az (a6 (List.length ((x19 ++ ([46] : List UInt8)) ++ x20) + List.length ([68] : List UInt8))) (
 callK (ρ.call 71 [LV.int .i64 x13] μ) (fun v82 μ83 =>
 opt (aI v82) fun s86=>
 az (a6 (List.length (((x19 ++ ([46] : List UInt8)) ++ x20) ++ ([68] : List UInt8)) + List.length s86)) (
 some (kf (1:Int) x12 ((((x19++([46]:List UInt8))++x20)++([68]:List UInt8))++s86) x6 (0:Int) μ83))) (pX xj))) (
 cond (!decide (x13 = (0 : Int))) (
 az (a6 (List.length ((x19 ++ ([46] : List UInt8)) ++ x20) + List.length ([69] : List UInt8))) (
 callK (ρ.call 71 [LV.int .i64 x13] μ) (fun v87 μ88 =>
 opt (aI v87) fun s91=>
 az (a6 (List.length (((x19 ++ ([46] : List UInt8)) ++ x20) ++ ([69] : List UInt8)) + List.length s91)) (
 some (kf (1:Int) x12 ((((x19++([46]:List UInt8))++x20)++([69]:List UInt8))++s91) x6 (0:Int) μ88))) (pX xj))) (
 some (kf (1:Int) x12 ((x19++([46]:List UInt8))++x20) x6 (0:Int) μ))))):=by kernel_rfl
theorem Cc (o0_0 o0_1 o0_2 o0_3 o0_4 μ):kS ρ H98 [] [(4,0)] (kf o0_0 o0_1 o0_2 o0_3 o0_4 μ)=
 some (kI o0_0 o0_1 o0_2 o0_3 o0_4 μ):=by kernel_rfl
theorem LI (x0 x1 x5 x6 x12 x13 x18 o0_0 o0_1 o0_2 o0_3 o0_4 μ):(CM x0 x1 x5 x6 x12 x13 x18 o0_0 o0_1 o0_2 o0_3 o0_4).sK ρ μ=
 opt (bJ x0 x1 (IntKind.wrap .i64 (x1+x5))) fun s51=>
 callK (ρ.call 70 [LV.str s51] μ) (fun v52 μ53 =>
 opt (aI v52) fun s56=>
 callK (ρ.call 69 [LV.str s56] μ53) (fun v57 μ58 =>
 opt (aI v57) fun s61=>
 callK (ρ.call 70 [LV.str x18] μ58) (fun v62 μ63 =>
 opt (aI v62) fun s66=>
 callK (ρ.call 134 [LV.str s66] μ63) (fun v67 μ68 =>
 opt (aI v67) fun s71=>
 callK (ρ.call 135 [LV.str s61] μ68) (fun v72 μ73 =>
 opt (aE .i64 v72) fun n76=>
 callK (ρ.call 135 [LV.str s71] μ73) (fun v77 μ78 =>
 opt (aE .i64 v77) fun n81=>
 cond (decide ((30 : Int) < IntKind.wrap .i64 (n76 + n81))) (
 some (kI (0:Int) (0:Int) ([]:List UInt8) (0:Int) (7:Int) μ78)) (
 opt (IQ ρ x6 x12 x13 s61 s71 o0_0 o0_1 o0_2 o0_3 o0_4 μ78) (kS ρ H98 [] [(4,0)]))) (pX iT)) (pX iT)) (pX iT)) (pX iT)) (pX iT)) (pX iT):=by kernel_rfl
theorem sI (o0_0 o0_1 o0_2 o0_3 o0_4 μ):kS ρ H98 [] [(4,0)] (kI o0_0 o0_1 o0_2 o0_3 o0_4 μ)=
 some (mr o0_0 o0_1 o0_2 o0_3 o0_4 μ):=by kernel_rfl
theorem zn (x0 x1 x5 x6 x10 x11 x12 x13 o0_0 o0_1 o0_2 o0_3 o0_4 μ):(DM x0 x1 x5 x6 x10 x11 x12 x13 o0_0 o0_1 o0_2 o0_3 o0_4).sK ρ μ=
 cond (x10) (
 opt (bJ x0 (IntKind.wrap .i64 (IntKind.wrap .i64 (x1+x5)+(1:Int))) (IntKind.wrap .i64 (IntKind.wrap .i64 (IntKind.wrap .i64 (x1+x5)+(1:Int))+x11))) fun s50=>
 opt (ye ρ x0 x1 x5 x6 x12 x13 s50 o0_0 o0_1 o0_2 o0_3 o0_4 μ) (kS ρ H98 [] [(4,0)])) (
 opt (ye ρ x0 x1 x5 x6 x12 x13 ([]:List UInt8) o0_0 o0_1 o0_2 o0_3 o0_4 μ) (kS ρ H98 [] [(4,0)])):=by kernel_rfl
theorem ss (o0_0 o0_1 o0_2 o0_3 o0_4 μ):kS ρ H98 [] [(4,0)] (mr o0_0 o0_1 o0_2 o0_3 o0_4 μ)=
 some (iK o0_0 o0_1 o0_2 o0_3 o0_4 μ):=by kernel_rfl
theorem Km (x0 x1 x5 x6 x10 x11 x12 x13 x14 o0_0 o0_1 o0_2 o0_3 o0_4 μ):(Du x0 x1 x5 x6 x10 x11 x12 x13 x14 o0_0 o0_1 o0_2 o0_3 o0_4).sK ρ μ=
 cond (!x10) (
 cond (!x14) (
 cond (decide ((10 : Int) < x5)) (
 some (iK (0:Int) (0:Int) ([]:List UInt8) (0:Int) (28:Int) μ)) (
 opt (GJ ρ x0 x1 x5 x6 o0_0 o0_1 o0_2 o0_3 o0_4 μ) (kS ρ H98 [.seq (cA 98 [1,1,1,1,1,1,1,1,1,1,1])] [(4,0)]))) (
 opt (ur ρ x0 x1 x5 x6 x10 x11 x12 x13 o0_0 o0_1 o0_2 o0_3 o0_4 μ) (kS ρ H98 [] [(4,0)]))) (
 opt (ur ρ x0 x1 x5 x6 x10 x11 x12 x13 o0_0 o0_1 o0_2 o0_3 o0_4 μ) (kS ρ H98 [] [(4,0)])):=by kernel_rfl
theorem sL (o0_0 o0_1 o0_2 o0_3 o0_4 μ):kS ρ H98 [] [(4,0)] (iK o0_0 o0_1 o0_2 o0_3 o0_4 μ)=
 some (fA o0_0 o0_1 o0_2 o0_3 o0_4 μ):=by kernel_rfl
theorem sH (x0 x1 x5 x6 x10 x11 x12 x13 x14 o0_0 o0_1 o0_2 o0_3 o0_4 μ):kS ρ H98 [.seq (cA 98 [1,1,1,1,1,1,1,1,1,1])] [(4,0)] (kh x0 x1 x5 x6 x10 x11 x12 x13 x14 o0_0 o0_1 o0_2 o0_3 o0_4 μ)=
 opt (ng ρ x0 x1 x5 x6 x10 x11 x12 x13 x14 o0_0 o0_1 o0_2 o0_3 o0_4 μ) (kS ρ H98 [] [(4,0)]):=by kernel_rfl
theorem LH (x0 x1 x5 x6 x7 x10 x11 o0_0 o0_1 o0_2 o0_3 o0_4 μ):(CS x0 x1 x5 x6 x7 x10 x11 o0_0 o0_1 o0_2 o0_3 o0_4).sK ρ μ=
 cond (!x7) (
 cond (decide (x6 < (List.length x0 : Int))) (
 opt (aX x0 x6) fun y24=>
 cond (decide ((y24.toNat : Int) = (69 : Int))) (
 cond (decide (IntKind.wrap .i64 (x6 + (1 : Int)) < (List.length x0 : Int))) (
 opt (aX x0 (IntKind.wrap .i64 (x6+(1:Int)))) fun y25=>
 cond (decide ((y25.toNat : Int) = (43 : Int))) (
 opt (cH ρ x0 x1 x5 x6 x10 x11 (1:Int) (0:Int) false (IntKind.wrap .i64 (IntKind.wrap .i64 (x6+(1:Int))+(1:Int))) o0_0 o0_1 o0_2 o0_3 o0_4 μ) (kS ρ H98 [.seq (cA 98 [1,1,1,1,1,1,1,1,1,1])] [(4,0)])) (
 opt (aX x0 (IntKind.wrap .i64 (x6+(1:Int)))) fun y99=>
 cond (decide ((y99.toNat : Int) = (45 : Int))) (
 opt (cH ρ x0 x1 x5 x6 x10 x11 (1:Int) (0:Int) false (IntKind.wrap .i64 (IntKind.wrap .i64 (x6+(1:Int))+(1:Int))) o0_0 o0_1 o0_2 o0_3 o0_4 μ) (kS ρ H98 [.seq (cA 98 [1,1,1,1,1,1,1,1,1,1])] [(4,0)])) (
 opt (cH ρ x0 x1 x5 x6 x10 x11 (1:Int) (0:Int) false (IntKind.wrap .i64 (x6+(1:Int))) o0_0 o0_1 o0_2 o0_3 o0_4 μ) (kS ρ H98 [.seq (cA 98 [1,1,1,1,1,1,1,1,1,1])] [(4,0)])))) (
 opt (cH ρ x0 x1 x5 x6 x10 x11 (1:Int) (0:Int) false (IntKind.wrap .i64 (x6+(1:Int))) o0_0 o0_1 o0_2 o0_3 o0_4 μ) (kS ρ H98 [.seq (cA 98 [1,1,1,1,1,1,1,1,1,1])] [(4,0)]))) (
 opt (aX x0 x6) fun y103=>
 cond (decide ((y103.toNat : Int) = (101 : Int))) (
 cond (decide (IntKind.wrap .i64 (x6 + (1 : Int)) < (List.length x0 : Int))) (
 opt (aX x0 (IntKind.wrap .i64 (x6+(1:Int)))) fun y104=>
 cond (decide ((y104.toNat : Int) = (43 : Int))) (
 opt (cH ρ x0 x1 x5 x6 x10 x11 (1:Int) (0:Int) false (IntKind.wrap .i64 (IntKind.wrap .i64 (x6+(1:Int))+(1:Int))) o0_0 o0_1 o0_2 o0_3 o0_4 μ) (kS ρ H98 [.seq (cA 98 [1,1,1,1,1,1,1,1,1,1])] [(4,0)])) (
 opt (aX x0 (IntKind.wrap .i64 (x6+(1:Int)))) fun y106=>
 cond (decide ((y106.toNat : Int) = (45 : Int))) (
 opt (cH ρ x0 x1 x5 x6 x10 x11 (1:Int) (0:Int) false (IntKind.wrap .i64 (IntKind.wrap .i64 (x6+(1:Int))+(1:Int))) o0_0 o0_1 o0_2 o0_3 o0_4 μ) (kS ρ H98 [.seq (cA 98 [1,1,1,1,1,1,1,1,1,1])] [(4,0)])) (
 opt (cH ρ x0 x1 x5 x6 x10 x11 (1:Int) (0:Int) false (IntKind.wrap .i64 (x6+(1:Int))) o0_0 o0_1 o0_2 o0_3 o0_4 μ) (kS ρ H98 [.seq (cA 98 [1,1,1,1,1,1,1,1,1,1])] [(4,0)])))) (
 opt (cH ρ x0 x1 x5 x6 x10 x11 (1:Int) (0:Int) false (IntKind.wrap .i64 (x6+(1:Int))) o0_0 o0_1 o0_2 o0_3 o0_4 μ) (kS ρ H98 [.seq (cA 98 [1,1,1,1,1,1,1,1,1,1])] [(4,0)]))) (
 opt (aX x0 x6) fun y110=>
 cond (decide ((y110.toNat : Int) = (68 : Int))) (
 cond (decide (IntKind.wrap .i64 (x6 + (1 : Int)) < (List.length x0 : Int))) (
 opt (aX x0 (IntKind.wrap .i64 (x6+(1:Int)))) fun y111=>
 cond (decide ((y111.toNat : Int) = (43 : Int))) (
 opt (cH ρ x0 x1 x5 x6 x10 x11 (1:Int) (0:Int) false (IntKind.wrap .i64 (IntKind.wrap .i64 (x6+(1:Int))+(1:Int))) o0_0 o0_1 o0_2 o0_3 o0_4 μ) (kS ρ H98 [.seq (cA 98 [1,1,1,1,1,1,1,1,1,1])] [(4,0)])) (
 opt (aX x0 (IntKind.wrap .i64 (x6+(1:Int)))) fun y113=>
 cond (decide ((y113.toNat : Int) = (45 : Int))) (
 opt (cH ρ x0 x1 x5 x6 x10 x11 (1:Int) (0:Int) false (IntKind.wrap .i64 (IntKind.wrap .i64 (x6+(1:Int))+(1:Int))) o0_0 o0_1 o0_2 o0_3 o0_4 μ) (kS ρ H98 [.seq (cA 98 [1,1,1,1,1,1,1,1,1,1])] [(4,0)])) (
 opt (cH ρ x0 x1 x5 x6 x10 x11 (1:Int) (0:Int) false (IntKind.wrap .i64 (x6+(1:Int))) o0_0 o0_1 o0_2 o0_3 o0_4 μ) (kS ρ H98 [.seq (cA 98 [1,1,1,1,1,1,1,1,1,1])] [(4,0)])))) (
 opt (cH ρ x0 x1 x5 x6 x10 x11 (1:Int) (0:Int) false (IntKind.wrap .i64 (x6+(1:Int))) o0_0 o0_1 o0_2 o0_3 o0_4 μ) (kS ρ H98 [.seq (cA 98 [1,1,1,1,1,1,1,1,1,1])] [(4,0)]))) (
 opt (aX x0 x6) fun y117=>
 cond (decide ((y117.toNat : Int) = (100 : Int))) (
 cond (decide (IntKind.wrap .i64 (x6 + (1 : Int)) < (List.length x0 : Int))) (
 opt (aX x0 (IntKind.wrap .i64 (x6+(1:Int)))) fun y118=>
 cond (decide ((y118.toNat : Int) = (43 : Int))) (
 opt (cH ρ x0 x1 x5 x6 x10 x11 (1:Int) (0:Int) false (IntKind.wrap .i64 (IntKind.wrap .i64 (x6+(1:Int))+(1:Int))) o0_0 o0_1 o0_2 o0_3 o0_4 μ) (kS ρ H98 [.seq (cA 98 [1,1,1,1,1,1,1,1,1,1])] [(4,0)])) (
 opt (aX x0 (IntKind.wrap .i64 (x6+(1:Int)))) fun y120=>
 cond (decide ((y120.toNat : Int) = (45 : Int))) (
 opt (cH ρ x0 x1 x5 x6 x10 x11 (1:Int) (0:Int) false (IntKind.wrap .i64 (IntKind.wrap .i64 (x6+(1:Int))+(1:Int))) o0_0 o0_1 o0_2 o0_3 o0_4 μ) (kS ρ H98 [.seq (cA 98 [1,1,1,1,1,1,1,1,1,1])] [(4,0)])) (
 opt (cH ρ x0 x1 x5 x6 x10 x11 (1:Int) (0:Int) false (IntKind.wrap .i64 (x6+(1:Int))) o0_0 o0_1 o0_2 o0_3 o0_4 μ) (kS ρ H98 [.seq (cA 98 [1,1,1,1,1,1,1,1,1,1])] [(4,0)])))) (
 opt (cH ρ x0 x1 x5 x6 x10 x11 (1:Int) (0:Int) false (IntKind.wrap .i64 (x6+(1:Int))) o0_0 o0_1 o0_2 o0_3 o0_4 μ) (kS ρ H98 [.seq (cA 98 [1,1,1,1,1,1,1,1,1,1])] [(4,0)]))) (
 opt (ng ρ x0 x1 x5 x6 x10 x11 (1:Int) (0:Int) false o0_0 o0_1 o0_2 o0_3 o0_4 μ) (kS ρ H98 [] [(4,0)])))))) (
 opt (ng ρ x0 x1 x5 x6 x10 x11 (1:Int) (0:Int) false o0_0 o0_1 o0_2 o0_3 o0_4 μ) (kS ρ H98 [] [(4,0)]))) (
 opt (ng ρ x0 x1 x5 x6 x10 x11 (1:Int) (0:Int) false o0_0 o0_1 o0_2 o0_3 o0_4 μ) (kS ρ H98 [] [(4,0)])):=by kernel_rfl
theorem sN (o0_0 o0_1 o0_2 o0_3 o0_4 μ):kB ρ 98 H98 [] (fA o0_0 o0_1 o0_2 o0_3 o0_4 μ)=
 some (.ret (LV.cv (CV.agg [CV.int .i64 o0_0,CV.int .i64 o0_1,CV.str o0_2,CV.int .i64 o0_3,CV.int .i64 o0_4])) μ):=by kernel_rfl
theorem FH (x0 x1 x5 x6 x7 o0_0 o0_1 o0_2 o0_3 o0_4 μ):kB ρ 98 H98 [.block 0,.seq (cA 98 [1,1,1,1,1])] (sP x0 x1 x5 x6 x7 o0_0 o0_1 o0_2 o0_3 o0_4 μ)=
 cond (!x7) (
 cond (decide (x6 < (List.length x0 : Int))) (
 opt (aX x0 x6) fun y18=>
 cond (decide ((y18.toNat : Int) = (46 : Int))) (
 callK (ρ.call 47 [LV.str x0, LV.int .i64 (IntKind.wrap .i64 (x6 + (1 : Int)))] μ) (fun v19 μ20 =>
 opt (aE .i64 v19) fun n23=>
 opt (nJ ρ x0 x1 x5 (IntKind.wrap .i64 (IntKind.wrap .i64 (x6+(1:Int))+n23)) x7 true n23 o0_0 o0_1 o0_2 o0_3 o0_4 μ20) (kB ρ 98 H98 [])) pP) (
 opt (nJ ρ x0 x1 x5 x6 x7 false (0:Int) o0_0 o0_1 o0_2 o0_3 o0_4 μ) (kB ρ 98 H98 []))) (
 opt (nJ ρ x0 x1 x5 x6 x7 false (0:Int) o0_0 o0_1 o0_2 o0_3 o0_4 μ) (kB ρ 98 H98 []))) (
 opt (nJ ρ x0 x1 x5 x6 x7 false (0:Int) o0_0 o0_1 o0_2 o0_3 o0_4 μ) (kB ρ 98 H98 [])):=by kernel_rfl
theorem QR (a b μ):aG E ρ 98 [LV.str a,LV.int .i64 b] μ=
 callK (ρ.call 47 [LV.str a, LV.int .i64 b] μ) (fun v1 μ2 =>
 opt (aE .i64 v1) fun n5=>
 callK (ρ.call 55 [] μ2) (fun v6 μ7 =>
 opt (fm v6) fun l10=>
 az (gg 1 l10 [CV.str ([46, 84, 82, 85, 69, 46] : List UInt8), CV.str ([46, 70, 65, 76, 83, 69, 46] : List UInt8)]) (
 opt (uv ρ a b n5 (IntKind.wrap .i64 (b+n5)) false (l10++[CV.str ([46,84,82,85,69,46]:List UInt8),CV.str ([46,70,65,76,83,69,46]:List UInt8)]) (List.length (l10++[CV.str ([46,84,82,85,69,46]:List UInt8),CV.str ([46,70,65,76,83,69,46]:List UInt8)]):Int) (0:Int) (0:Int) (0:Int) ([]:List UInt8) (0:Int) (0:Int) μ7) (kB ρ 98 H98 [.block 0,.seq (cA 98 [1,1,1,1,1])]))) pP) pP:=by kernel_rfl
theorem Qk (a b c μ):aG E ρ 99 [LV.str a,LV.int .i64 b,LV.str c] μ=
 cond (decide (IntKind.wrap .i64 (b + (List.length c : Int)) ≤ (List.length a : Int))) (
 opt (bJ a b (IntKind.wrap .i64 (b+(List.length c:Int)))) fun s1=>
 callK (ρ.call 97 [LV.str s1] μ) (fun v2 μ3 =>
 opt (aI v2) fun s6=>
 some (.ret (LV.bool (decide (s6=c))) μ3)) pP) (
 some (.ret (LV.bool false) μ)):=by kernel_rfl
theorem PP (μ):aG E ρ 100 [] μ=
 some (.ret (LV.osl [CV.agg [CV.str ([60,61]:List UInt8),CV.str ([46,76,69,46]:List UInt8)],CV.agg [CV.str ([62,61]:List UInt8),CV.str ([46,71,69,46]:List UInt8)],CV.agg [CV.str ([61,61]:List UInt8),CV.str ([46,69,81,46]:List UInt8)],CV.agg [CV.str ([47,61]:List UInt8),CV.str ([46,78,69,46]:List UInt8)],CV.agg [CV.str ([60]:List UInt8),CV.str ([46,76,84,46]:List UInt8)],CV.agg [CV.str ([62]:List UInt8),CV.str ([46,71,84,46]:List UInt8)]]) μ):=by kernel_rfl
theorem Qc (a μ):aG E ρ 114 [LV.int .u8 a] μ=
 callK (ρ.call 23 [LV.int .i64 (IntKind.wrap .i64 a), LV.int .i64 (48 : Int), LV.int .i64 (57 : Int)] μ) (fun v1 μ2 =>
 opt (aN v1) fun b5=>
 some (.ret (LV.bool b5) μ2)) pP:=by kernel_rfl
theorem Pt (a μ):aG E ρ 117 [LV.str a] μ=
 cond (decide ((1320 : Int) < (List.length a : Int))) (
 some (.ret (LV.int .i64 (8:Int)) μ)) (
 callK (ρ.call 85 [LV.str a] μ) (fun v1 μ2 =>
 opt (aN v1) fun b5=>
 cond (!b5) (
 some (.ret (LV.int .i64 (3:Int)) μ2)) (
 some (.ret (LV.int .i64 (0:Int)) μ2))) pP):=by kernel_rfl
def C0 (x0l x0i:Nat)(x2 o0_0:Int):SegD:=⟨kO,[(0,0),(2,0),(3,0),(6,0)],cA 118 [1,1,0,0],mS [(0,LV.cv (CV.ref x0l x0i 0)),(2,LV.int .i64 x2),(3,LV.loc 0 0),(6,LV.lclo 147 [LV.loc 0 0])] [Ob.cells [LV.int .i64 o0_0]]⟩
def zq (x0l x0i:Nat)(x2 o0_0:Int)(μ:Mu):=(C0 x0l x0i x2 o0_0).loop ρ μ
def yF (x0l x0i:Nat)(x2 o0_0:Int):SegD:=⟨kO,[(0,0),(2,0),(3,0),(6,0)],cA 118 [1,1,0,0,0,0,0,0],mS [(0,LV.cv (CV.ref x0l x0i 0)),(2,LV.int .i64 x2),(3,LV.loc 0 0),(6,LV.lclo 147 [LV.loc 0 0])] [Ob.cells [LV.int .i64 o0_0]]⟩
def we (x0l x0i:Nat)(x2 o0_0:Int)(μ:Mu):=(yF x0l x0i x2 o0_0).loop ρ μ
def k7 (x0l x0i:Nat)(x2 o0_0:Int)(μ:Mu):St:= .exit 2 (mS [(0,LV.cv (CV.ref x0l x0i 0)),(2,LV.int .i64 x2),(3,LV.loc 0 0),(6,LV.lclo 147 [LV.loc 0 0])] [Ob.cells [LV.int .i64 o0_0]]) μ
def qL (x2 o0_0:Int)(μ:Mu):St:= .ret (mS [(2,LV.int .i64 x2),(3,LV.loc 0 0),(6,LV.lclo 147 [LV.loc 0 0])] [Ob.cells [LV.int .i64 o0_0]]) μ
def DJ (x0l x0i:Nat)(x2 o0_0:Int):SegD:=⟨kO,[(0,0),(2,0),(3,0),(6,0)],cA 118 [1,1,0,0,0,1,1],mS [(0,LV.cv (CV.ref x0l x0i 0)),(2,LV.int .i64 x2),(3,LV.loc 0 0),(6,LV.lclo 147 [LV.loc 0 0])] [Ob.cells [LV.int .i64 o0_0]]⟩
def AE (x0l x0i:Nat)(x2 o0_0:Int)(μ:Mu):=(DJ x0l x0i x2 o0_0).seg ρ μ
def qk (x0l x0i:Nat)(x2 o0_0:Int)(μ:Mu):St:= .norm (mS [(0,LV.cv (CV.ref x0l x0i 0)),(2,LV.int .i64 x2),(3,LV.loc 0 0),(6,LV.lclo 147 [LV.loc 0 0])] [Ob.cells [LV.int .i64 o0_0]]) μ
def rc (pv:CV)(x2 o0_0:Int)(μ:Mu):St:= .panic pv (mS [(2,LV.int .i64 x2),(3,LV.loc 0 0),(6,LV.lclo 147 [LV.loc 0 0])] [Ob.cells [LV.int .i64 o0_0]]) μ
def qU (pv:CV)(x2 o0_0:Int)(μ:Mu):St:= .panic pv (mS [(2,LV.int .i64 x2),(3,LV.loc 0 0),(6,LV.lclo 147 [LV.loc 0 0])] [Ob.cells [LV.int .i64 o0_0]]) μ
theorem wy (x0l x0i x2 o0_0 μ):(yF x0l x0i x2 o0_0).rK ρ μ=
 opt (bv E.P 9 (aZ μ x0l x0i) 0) fun v1=>
 opt (aI v1) fun s2=>
 cond (decide (x2 < (List.length s2 : Int))) (
 opt (bv E.P 9 (aZ μ x0l x0i) 0) fun v3=>
 opt (aI v3) fun s4=>
 opt (aX s4 x2) fun y5=>
 cond (decide ((y5.toNat : Int) = (32 : Int))) (
 we ρ x0l x0i (IntKind.wrap .i64 (x2+(1:Int))) o0_0 μ) (
 some (k7 x0l x0i x2 o0_0 μ))) (
 some (k7 x0l x0i x2 o0_0 μ)):=by kernel_rfl
theorem ym (x0l x0i x2 o0_0 μ):(DJ x0l x0i x2 o0_0).sK ρ μ=
 callK (ρ.call 148 [LV.cv (CV.ref x0l x0i 0), LV.int .i64 x2] μ) (fun v8 μ9 =>
 opt (aR v8) fun xs12=>
 opt (aA xs12) fun q13=>
 fM q13.1 fun n14 n15 s16=>
 opt (aA q13.2) fun q17=>
 opt (aE .i64 q17.1) fun n18=>
 opt (aM q17.2) fun u19=>
 opt (kg E.P 32 (aZ μ9 x0l x0i) 2) fun r20=>
 opt (fm r20.1) fun l21=>
 az (gg 3 l21 [CV.agg [CV.int .i64 n14, CV.int .i64 n15, CV.str s16]]) (
 az (bO (x0l + 1) (l21 ++ [CV.agg [CV.int .i64 n14, CV.int .i64 n15, CV.str s16]])) (
 opt (bE E.P 32 (aZ (bM μ9 x0l x0i r20.2) x0l x0i) 2 (LV.osl (l21++[CV.agg [CV.int .i64 n14,CV.int .i64 n15,CV.str s16]]))) fun o22=>
 some (qk x0l x0i n18 o0_0 (bM (bM μ9 x0l x0i r20.2) x0l x0i o22))))) (fun v11 μ10=>
 some (rc v11 x2 o0_0 μ10)):=by kernel_rfl
theorem BD (x0l x0i x2 o0_0 μ):kR ρ kO [.block 1] [(0,0),(2,0),(3,0),(6,0)] (cA 118 [1,1,0,0]) (qk x0l x0i x2 o0_0 μ)=
 zq ρ x0l x0i x2 o0_0 μ:=by kernel_rfl
theorem Bj (pv x2 o0_0 μ):kR ρ kO [.block 1] [(0,0),(2,0),(3,0),(6,0)] (cA 118 [1,1,0,0]) (rc pv x2 o0_0 μ)=
 some (qU pv x2 o0_0 μ):=by kernel_rfl
theorem Az (x0l x0i x2 o0_0 μ):kR ρ kO [.block 2,.seq (cA 118 [1,1,0,0,0,1]),.block 1] [(0,0),(2,0),(3,0),(6,0)] (cA 118 [1,1,0,0]) (k7 x0l x0i x2 o0_0 μ)=
 opt (bv E.P 9 (aZ μ x0l x0i) 0) fun v6=>
 opt (aI v6) fun s7=>
 cond (decide ((List.length s7 : Int) ≤ x2)) (
 some (qL (0:Int) (0:Int) μ)) (
 opt (AE ρ x0l x0i x2 o0_0 μ) (kR ρ kO [.block 1] [(0,0),(2,0),(3,0),(6,0)] (cA 118 [1,1,0,0]))):=by kernel_rfl
theorem KD (x0l x0i x2 o0_0 μ):(C0 x0l x0i x2 o0_0).rK ρ μ=
 opt (we ρ x0l x0i x2 o0_0 μ) (kR ρ kO [.block 2,.seq (cA 118 [1,1,0,0,0,1]),.block 1] [(0,0),(2,0),(3,0),(6,0)] (cA 118 [1,1,0,0])):=by kernel_rfl
theorem AU (x2 o0_0 μ):hZ E.P ρ kO [.block 0] (qL x2 o0_0 μ) (vy E.P ρ 6 (xE E.P 118))=
 opt (ρ.dcall 147 none [LV.cv (CV.ref (List.length μ) 0 0)] (μ++[[Ob.cells [LV.int .i64 o0_0]]])) fun μ25=>
 opt (gO μ25) fun q26=>
 opt (opt (opt (bv E.P 25 (aF q26.2 0) 0) fun v27 =>
 some [v27]) fun l28=>some (LV.int .i64 x2::l28)) fun l29=>az (nq (dU l29)) (az (e8 (List.length q26.1) (dU l29)) (some (.ret (dU l29) q26.1))):=by kernel_rfl
theorem Bz (pv x2 o0_0 μ):hZ E.P ρ kO [.block 0] (qU pv x2 o0_0 μ) (vy E.P ρ 6 (xE E.P 118))=
 opt (ρ.dcall 147 (some pv) [LV.cv (CV.ref (List.length μ) 0 0)] (μ++[[Ob.cells [LV.int .i64 o0_0]]])) fun μ30=>
 opt (gO μ30) fun q31=>
 opt (opt (opt (bv E.P 25 (aF q31.2 0) 0) fun v32 =>
 some [v32]) fun l33=>some (LV.int .i64 x2::l33)) fun l34=>az (nq (dU l34)) (az (e8 (List.length q31.1) (dU l34)) (some (.ret (dU l34) q31.1))):=by kernel_rfl
theorem PO (al ai μ):aG E ρ 118 [LV.cv (CV.ref al ai 0)] μ=
 opt (zq ρ al ai (0:Int) (0:Int) μ) fun st35=>hZ E.P ρ kO [.block 0] st35 (vy E.P ρ 6 (xE E.P 118)):=by kernel_rfl
def CK (x0:List UInt8)(x3 x4:Int):SegD:=⟨Ff,[(3,0)],cA 120 [1,1,0,1,0,0],mS [(0,LV.str x0),(3,LV.int .i64 x3),(4,LV.int .i64 x4)] []⟩
def yL (x0:List UInt8)(x3 x4:Int)(μ:Mu):=(CK x0 x3 x4).loop ρ μ
def qn (x3:Int)(μ:Mu):St:= .exit 0 (mS [(3,LV.int .i64 x3)] []) μ
theorem Am (x0 x3 x4 μ):(CK x0 x3 x4).rK ρ μ=
 cond (decide (x4 < (List.length x0 : Int))) (
 opt (aX x0 x4) fun y1=>
 yL ρ x0 (IntKind.wrap .i64 (IntKind.wrap .i64 ((10:Int)*x3)+IntKind.wrap .i64 (IntKind.wrap .u8 ((y1.toNat:Int) -(48:Int))))) (IntKind.wrap .i64 (x4+(1:Int))) μ) (
 some (qn x3 μ)):=by kernel_rfl
theorem AZ (x3 μ):kB ρ 120 Ff [.block 0,.seq (cA 120 [1,1,1])] (qn x3 μ)=
 some (.ret (LV.int .i64 x3) μ):=by kernel_rfl
theorem Pm (a μ):aG E ρ 120 [LV.str a] μ=
 opt (yL ρ a (0:Int) (0:Int) μ) (kB ρ 120 Ff [.block 0,.seq (cA 120 [1,1,1])]):=by kernel_rfl
theorem Qf (a μ):aG E ρ 132 [LV.int .u8 a] μ=
 cond (decide ((48 : Int) ≤ a)) (
 some (.ret (LV.bool (decide (a≤(57:Int)))) μ)) (
 some (.ret (LV.bool false) μ)):=by kernel_rfl
def Dk (x0:List UInt8):SegD:=⟨GC,[(0,0)],cA 134 [1,0,0,0],mS [(0,LV.str x0)] []⟩
def AH (x0:List UInt8)(μ:Mu):=(Dk x0).loop ρ μ
def mJ (x0:List UInt8)(μ:Mu):St:= .exit 0 (mS [(0,LV.str x0)] []) μ
theorem sO (x0 μ):(Dk x0).rK ρ μ=
 cond (decide ((1 : Int) < (List.length x0 : Int))) (
 opt (aX x0 (IntKind.wrap .i64 ((List.length x0:Int) -(1:Int)))) fun y1=>
 cond (decide ((y1.toNat : Int) = (48 : Int))) (
 opt (bJ x0 (0:Int) (IntKind.wrap .i64 ((List.length x0:Int) -(1:Int)))) fun s2=>
 AH ρ s2 μ) (
 some (mJ x0 μ))) (
 some (mJ x0 μ)):=by kernel_rfl
theorem BL (x0 μ):kB ρ 134 GC [.block 0,.seq (cA 134 [1,1])] (mJ x0 μ)=
 some (.ret (LV.str x0) μ):=by kernel_rfl
theorem Pr (a μ):aG E ρ 134 [LV.str a] μ=
 opt (AH ρ a μ) (kB ρ 134 GC [.block 0,.seq (cA 134 [1,1])]):=by kernel_rfl
theorem Pz (a μ):aG E ρ 135 [LV.str a] μ=
 cond (decide (a = ([48] : List UInt8))) (
 some (.ret (LV.int .i64 (0:Int)) μ)) (
 some (.ret (LV.int .i64 (List.length a:Int)) μ)):=by kernel_rfl
theorem MD (al ai μ):fF E ρ 147 none [LV.cv (CV.ref al ai 0)] μ=
 some μ:=by kernel_rfl
theorem Nw (e al ai μ):fF E ρ 147 (some (CV.iface 162 (CV.agg [CV.int .i64 e]))) [LV.cv (CV.ref al ai 0)] μ=
 opt (bE E.P 25 (aZ μ al ai) 0 (LV.int .i64 e)) fun o1=>
 some (bM μ al ai o1):=by kernel_rfl
def Cr (x0l x0i:Nat)(x1 x6 o0_0 o0_1:Int)(o0_2:List UInt8):SegD:=⟨d9,[(4,0),(5,0)],cA 148 [1,1,1],mS [(0,LV.cv (CV.ref x0l x0i 0)),(1,LV.int .i64 x1),(4,LV.loc 0 0),(6,LV.int .u8 x6)] [Ob.cells [LV.int .i64 o0_0,LV.int .i64 o0_1,LV.str o0_2]]⟩
def qm (x0l x0i:Nat)(x1 x6 o0_0 o0_1:Int)(o0_2:List UInt8)(μ:Mu):=(Cr x0l x0i x1 x6 o0_0 o0_1 o0_2).seg ρ μ
def cq (x5 o0_0 o0_1:Int)(o0_2:List UInt8)(μ:Mu):St:= .ret (mS [(4,LV.loc 0 0),(5,LV.int .i64 x5)] [Ob.cells [LV.int .i64 o0_0,LV.int .i64 o0_1,LV.str o0_2]]) μ
def bq (pv:CV)(μ:Mu):St:= .panic pv (mS [] []) μ
def zA (x14:List UInt8)(x15 o0_0 o0_1:Int)(o0_2:List UInt8):SegD:=⟨d9,[(0,0),(1,0),(4,0)],cA 148 [1,1,1,1,0,0,1,1,1,1,1,0,1,1],mS [(4,LV.loc 0 0),(14,LV.str x14),(15,LV.int .i64 x15)] [Ob.cells [LV.int .i64 o0_0,LV.int .i64 o0_1,LV.str o0_2]]⟩
def iI (x14:List UInt8)(x15 o0_0 o0_1:Int)(o0_2:List UInt8)(μ:Mu):=(zA x14 x15 o0_0 o0_1 o0_2).seg ρ μ
def i8 (x5 o0_0 o0_1:Int)(o0_2:List UInt8)(μ:Mu):St:= .ret (mS [(4,LV.loc 0 0),(5,LV.int .i64 x5)] [Ob.cells [LV.int .i64 o0_0,LV.int .i64 o0_1,LV.str o0_2]]) μ
def Ad (x0l x0i:Nat)(x1 o0_0 o0_1:Int)(o0_2:List UInt8):SegD:=⟨d9,[(4,0),(5,0)],cA 148 [1,1,1,1,1],mS [(0,LV.cv (CV.ref x0l x0i 0)),(1,LV.int .i64 x1),(4,LV.loc 0 0)] [Ob.cells [LV.int .i64 o0_0,LV.int .i64 o0_1,LV.str o0_2]]⟩
def nG (x0l x0i:Nat)(x1 o0_0 o0_1:Int)(o0_2:List UInt8)(μ:Mu):=(Ad x0l x0i x1 o0_0 o0_1 o0_2).seg ρ μ
def oe (x5 o0_0 o0_1:Int)(o0_2:List UInt8)(μ:Mu):St:= .ret (mS [(4,LV.loc 0 0),(5,LV.int .i64 x5)] [Ob.cells [LV.int .i64 o0_0,LV.int .i64 o0_1,LV.str o0_2]]) μ
def oc (pv:CV)(μ:Mu):St:= .panic pv (mS [] []) μ
theorem Jo (x14 x15 o0_0 o0_1 o0_2 μ):(zA x14 x15 o0_0 o0_1 o0_2).sK ρ μ=
 cond (decide (x14 = ([46, 84, 82, 85, 69, 46] : List UInt8))) (
 some (i8 x15 (1:Int) (5:Int) x14 μ)) (
 cond (decide (x14 = ([46, 70, 65, 76, 83, 69, 46] : List UInt8))) (
 some (i8 x15 (1:Int) (5:Int) x14 μ)) (
 some (i8 x15 (2:Int) (0:Int) x14 μ))):=by kernel_rfl
theorem yy (x5 o0_0 o0_1 o0_2 μ):kS ρ d9 [.block 0,.seq (cA 148 [1,1,1,1,1])] [(4,0),(5,0)] (i8 x5 o0_0 o0_1 o0_2 μ)=
 some (cq x5 o0_0 o0_1 o0_2 μ):=by kernel_rfl
theorem HX (x0l x0i x1 o0_0 o0_1 o0_2 μ):(Ad x0l x0i x1 o0_0 o0_1 o0_2).sK ρ μ=
 callK (ρ.call 174 [LV.cv (CV.ref x0l x0i 0), LV.int .i64 x1] μ) (fun v147 μ148 =>
 opt (aR v147) fun xs151=>
 opt (aA xs151) fun q152=>
 fM q152.1 fun n153 n154 s155=>
 opt (aA q152.2) fun q156=>
 opt (aE .i64 q156.1) fun n157=>
 opt (aM q156.2) fun u158=>
 some (oe n157 n153 n154 s155 μ148)) (pX oc):=by kernel_rfl
theorem zP (x5 o0_0 o0_1 o0_2 μ):kS ρ d9 [] [(4,0),(5,0)] (oe x5 o0_0 o0_1 o0_2 μ)=
 some (cq x5 o0_0 o0_1 o0_2 μ):=by kernel_rfl
theorem zK (pv μ):kS ρ d9 [] [(4,0),(5,0)] (oc pv μ)=
 some (bq pv μ):=by kernel_rfl
theorem JT (x0l x0i x1 x6 o0_0 o0_1 o0_2 μ):(Cr x0l x0i x1 x6 o0_0 o0_1 o0_2).sK ρ μ=
 callK (ρ.call 168 [LV.cv (CV.ref x0l x0i 0), LV.int .i64 (IntKind.wrap .i64 (x1 + (1 : Int)))] μ) (fun v28 μ29 =>
 opt (aR v28) fun xs32=>
 opt (aA xs32) fun q33=>
 opt (aE .u8 q33.1) fun n34=>
 opt (aA q33.2) fun q35=>
 opt (aE .i64 q35.1) fun n36=>
 opt (aM q35.2) fun u37=>
 callK (ρ.call 90 [LV.int .u8 x6] μ29) (fun v38 μ39 =>
 opt (aN v38) fun b42=>
 cond (b42) (
 callK (ρ.call 169 [LV.cv (CV.ref x0l x0i 0), LV.int .i64 x1, LV.cv (CV.clo 93 [])] μ39) (fun v43 μ44 =>
 opt (aR v43) fun xs47=>
 opt (aA xs47) fun q48=>
 opt (aI q48.1) fun s49=>
 opt (aA q48.2) fun q50=>
 opt (aE .i64 q50.1) fun n51=>
 opt (aM q50.2) fun u52=>
 cond (decide ((31 : Int) < (List.length s49 : Int))) (
 callK (ρ.call 170 [LV.int .i64 (4 : Int)] μ44) (fun v53 μ54 =>
 opt (aR v53) fun xs57=>
 opt (aM xs57) fun u58=>
 callK (ρ.call 91 [LV.str s49] μ54) (fun v59 μ60 =>
 opt (aI v59) fun s63=>
 some (cq n51 (0:Int) (0:Int) s63 μ60)) (pX bq)) (pX bq)) (
 callK (ρ.call 91 [LV.str s49] μ44) (fun v64 μ65 =>
 opt (aI v64) fun s68=>
 some (cq n51 (0:Int) (0:Int) s68 μ65)) (pX bq))) (pX bq)) (
 callK (ρ.call 132 [LV.int .u8 x6] μ39) (fun v69 μ70 =>
 opt (aN v69) fun b73=>
 cond (b73) (
 callK (ρ.call 171 [LV.cv (CV.ref x0l x0i 0), LV.int .i64 x1] μ70) (fun v74 μ75 =>
 opt (aR v74) fun xs78=>
 opt (aA xs78) fun q79=>
 fM q79.1 fun n80 n81 s82=>
 opt (aA q79.2) fun q83=>
 opt (aE .i64 q83.1) fun n84=>
 opt (aM q83.2) fun u85=>
 some (cq n84 n80 n81 s82 μ75)) (pX bq)) (
 cond (decide (x6 = (46 : Int))) (
 callK (ρ.call 132 [LV.int .u8 n34] μ70) (fun v86 μ87 =>
 opt (aN v86) fun b90=>
 cond (b90) (
 callK (ρ.call 171 [LV.cv (CV.ref x0l x0i 0), LV.int .i64 x1] μ87) (fun v91 μ92 =>
 opt (aR v91) fun xs95=>
 opt (aA xs95) fun q96=>
 fM q96.1 fun n97 n98 s99=>
 opt (aA q96.2) fun q100=>
 opt (aE .i64 q100.1) fun n101=>
 opt (aM q100.2) fun u102=>
 some (cq n101 n97 n98 s99 μ92)) (pX bq)) (
 cond (decide (x6 = (46 : Int))) (
 callK (ρ.call 172 [LV.cv (CV.ref x0l x0i 0), LV.int .i64 x1] μ87) (fun v103 μ104 =>
 opt (aR v103) fun xs107=>
 opt (aA xs107) fun q108=>
 opt (aI q108.1) fun s109=>
 opt (aA q108.2) fun q110=>
 opt (aE .i64 q110.1) fun n111=>
 opt (aA q110.2) fun q112=>
 opt (aN q112.1) fun b113=>
 opt (aM q112.2) fun u114=>
 cond (!b113) (
 callK (ρ.call 170 [LV.int .i64 (7 : Int)] μ104) (fun v115 μ116 =>
 opt (aR v115) fun xs119=>
 opt (aM xs119) fun u120=>
 opt (iI ρ s109 n111 o0_0 o0_1 o0_2 μ116) (kS ρ d9 [.block 0,.seq (cA 148 [1,1,1,1,1])] [(4,0),(5,0)])) (pX bq)) (
 opt (iI ρ s109 n111 o0_0 o0_1 o0_2 μ104) (kS ρ d9 [.block 0,.seq (cA 148 [1,1,1,1,1])] [(4,0),(5,0)]))) (pX bq)) (
 cond (decide (x6 = (39 : Int))) (
 callK (ρ.call 173 [LV.cv (CV.ref x0l x0i 0), LV.int .i64 x1] μ87) (fun v123 μ124 =>
 opt (aR v123) fun xs127=>
 opt (aA xs127) fun q128=>
 fM q128.1 fun n129 n130 s131=>
 opt (aA q128.2) fun q132=>
 opt (aE .i64 q132.1) fun n133=>
 opt (aM q132.2) fun u134=>
 some (cq n133 n129 n130 s131 μ124)) (pX bq)) (
 cond (decide (x6 = (34 : Int))) (
 callK (ρ.call 173 [LV.cv (CV.ref x0l x0i 0), LV.int .i64 x1] μ87) (fun v135 μ136 =>
 opt (aR v135) fun xs139=>
 opt (aA xs139) fun q140=>
 fM q140.1 fun n141 n142 s143=>
 opt (aA q140.2) fun q144=>
 opt (aE .i64 q144.1) fun n145=>
 opt (aM q144.2) fun u146=>
 some (cq n145 n141 n142 s143 μ136)) (pX bq)) (
 opt (nG ρ x0l x0i x1 o0_0 o0_1 o0_2 μ87) (kS ρ d9 [] [(4,0),(5,0)])))))) (pX bq)) (
 cond (decide (x6 = (46 : Int))) (
 callK (ρ.call 172 [LV.cv (CV.ref x0l x0i 0), LV.int .i64 x1] μ70) (fun v160 μ161 =>
 opt (aR v160) fun xs164=>
 opt (aA xs164) fun q165=>
 opt (aI q165.1) fun s166=>
 opt (aA q165.2) fun q167=>
 opt (aE .i64 q167.1) fun n168=>
 opt (aA q167.2) fun q169=>
 opt (aN q169.1) fun b170=>
 opt (aM q169.2) fun u171=>
 cond (!b170) (
 callK (ρ.call 170 [LV.int .i64 (7 : Int)] μ161) (fun v172 μ173 =>
 opt (aR v172) fun xs176=>
 opt (aM xs176) fun u177=>
 opt (iI ρ s166 n168 o0_0 o0_1 o0_2 μ173) (kS ρ d9 [.block 0,.seq (cA 148 [1,1,1,1,1])] [(4,0),(5,0)])) (pX bq)) (
 opt (iI ρ s166 n168 o0_0 o0_1 o0_2 μ161) (kS ρ d9 [.block 0,.seq (cA 148 [1,1,1,1,1])] [(4,0),(5,0)]))) (pX bq)) (
 cond (decide (x6 = (39 : Int))) (
 callK (ρ.call 173 [LV.cv (CV.ref x0l x0i 0), LV.int .i64 x1] μ70) (fun v180 μ181 =>
 opt (aR v180) fun xs184=>
 opt (aA xs184) fun q185=>
 fM q185.1 fun n186 n187 s188=>
 opt (aA q185.2) fun q189=>
 opt (aE .i64 q189.1) fun n190=>
 opt (aM q189.2) fun u191=>
 some (cq n190 n186 n187 s188 μ181)) (pX bq)) (
 cond (decide (x6 = (34 : Int))) (
 callK (ρ.call 173 [LV.cv (CV.ref x0l x0i 0), LV.int .i64 x1] μ70) (fun v192 μ193 =>
 opt (aR v192) fun xs196=>
 opt (aA xs196) fun q197=>
 fM q197.1 fun n198 n199 s200=>
 opt (aA q197.2) fun q201=>
 opt (aE .i64 q201.1) fun n202=>
 opt (aM q201.2) fun u203=>
 some (cq n202 n198 n199 s200 μ193)) (pX bq)) (
 opt (nG ρ x0l x0i x1 o0_0 o0_1 o0_2 μ70) (kS ρ d9 [] [(4,0),(5,0)]))))))) (pX bq))) (pX bq)) (pX bq):=by kernel_rfl
theorem B6 (x5 o0_0 o0_1 o0_2 μ):kB ρ 148 d9 [] (cq x5 o0_0 o0_1 o0_2 μ)=
 some (.ret (LV.ltup [LV.cv (CV.agg [CV.int .i64 o0_0,CV.int .i64 o0_1,CV.str o0_2]),LV.int .i64 x5]) μ):=by kernel_rfl
theorem A8 (pv μ):kB ρ 148 d9 [] (bq pv μ)=
 az (below (List.length μ) pv) (some (.panic pv μ)):=by kernel_rfl
theorem PT (al ai b μ):aG E ρ 148 [LV.cv (CV.ref al ai 0),LV.int .i64 b] μ=
 opt (bv E.P 9 (aZ μ al ai) 0) fun v1=>
 opt (aI v1) fun s2=>
 opt (aX s2 b) fun y3=>
 callK (ρ.call 166 [LV.cv (CV.ref al ai 0)] μ) (fun v4 μ5 =>
 opt (aN v4) fun b8=>
 cond (b8) (
 callK (ρ.call 132 [LV.int .u8 (y3.toNat : Int)] μ5) (fun v9 μ10 =>
 opt (aN v9) fun b13=>
 cond (b13) (
 callK (ρ.call 167 [LV.cv (CV.ref al ai 0), LV.int .i64 b] μ10) (fun v14 μ15 =>
 opt (aR v14) fun xs18=>
 opt (aA xs18) fun q19=>
 fM q19.1 fun n20 n21 s22=>
 opt (aA q19.2) fun q23=>
 opt (aE .i64 q23.1) fun n24=>
 opt (aA q23.2) fun q25=>
 opt (aN q25.1) fun b26=>
 opt (aM q25.2) fun u27=>
 cond (b26) (
 some (.ret (LV.ltup [LV.cv (CV.agg [CV.int .i64 n20,CV.int .i64 n21,CV.str s22]),LV.int .i64 n24]) μ15)) (
 opt (qm ρ al ai b (y3.toNat:Int) (0:Int) (0:Int) ([]:List UInt8) μ15) (kB ρ 148 d9 []))) pP) (
 opt (qm ρ al ai b (y3.toNat:Int) (0:Int) (0:Int) ([]:List UInt8) μ10) (kB ρ 148 d9 []))) pP) (
 opt (qm ρ al ai b (y3.toNat:Int) (0:Int) (0:Int) ([]:List UInt8) μ5) (kB ρ 148 d9 []))) pP:=by kernel_rfl
def DS (x0l x0i:Nat):SegD:=⟨tY,[(2,0)],cA 166 [1,1],mS [(0,LV.cv (CV.ref x0l x0i 0))] []⟩
def G6 (x0l x0i:Nat)(μ:Mu):=(DS x0l x0i).seg ρ μ
def mK (x2:Bool)(μ:Mu):St:= .ret (mS [(2,LV.bool x2)] []) μ
def Dp (x0l x0i:Nat):SegD:=⟨tY,[(2,0)],cA 166 [1,1,1],mS [(0,LV.cv (CV.ref x0l x0i 0))] []⟩
def GX (x0l x0i:Nat)(μ:Mu):=(Dp x0l x0i).seg ρ μ
def mC (x2:Bool)(μ:Mu):St:= .ret (mS [(2,LV.bool x2)] []) μ
def IZ (pv:CV)(μ:Mu):St:= .panic pv (mS [] []) μ
theorem LD (x0l x0i μ):(Dp x0l x0i).sK ρ μ=
 opt (bv E.P 32 (aZ μ x0l x0i) 2) fun v5=>
 opt (cM v5) fun l6=>
 opt (bv E.P 32 (aZ μ x0l x0i) 2) fun v7=>
 opt (cM v7) fun l8=>
 opt (dZ l6 (IntKind.wrap .i64 ((List.length l8:Int) -(1:Int)))) fun c9=>
 fM (LV.cv c9) fun n10 n11 s12=>
 cond (decide (n10 = (2 : Int))) (
 callK (ρ.call 50 [LV.osl [CV.str ([40] : List UInt8), CV.str ([44] : List UInt8), CV.str ([47] : List UInt8), CV.str ([61] : List UInt8)], LV.str s12] μ) (fun v13 μ14 =>
 opt (aN v13) fun b17=>
 some (mC b17 μ14)) (pX IZ)) (
 some (mC false μ)):=by kernel_rfl
theorem Bg (x2 μ):kS ρ tY [] [(2,0)] (mC x2 μ)=
 some (mK x2 μ):=by kernel_rfl
theorem KY (x0l x0i μ):(DS x0l x0i).sK ρ μ=
 opt (bv E.P 32 (aZ μ x0l x0i) 2) fun v3=>
 opt (cM v3) fun l4=>
 cond (decide ((List.length l4 : Int) = (0 : Int))) (
 some (mK true μ)) (
 opt (GX ρ x0l x0i μ) (kS ρ tY [] [(2,0)])):=by kernel_rfl
theorem BW (x2 μ):kB ρ 166 tY [] (mK x2 μ)=
 some (.ret (LV.bool x2) μ):=by kernel_rfl
theorem PN (al ai μ):aG E ρ 166 [LV.cv (CV.ref al ai 0)] μ=
 opt (bv E.P 4 (aZ μ al ai) 1) fun v1=>
 opt (aN v1) fun b2=>
 cond (!b2) (
 some (.ret (LV.bool false) μ)) (
 opt (G6 ρ al ai μ) (kB ρ 166 tY [])):=by kernel_rfl
def CW (x0l x0i:Nat)(x10 x11 o0_0 o0_1:Int)(o0_2:List UInt8):SegD:=⟨lR,[(4,0),(5,0),(6,0)],cA 167 [1,1,1,1,1],mS [(0,LV.cv (CV.ref x0l x0i 0)),(4,LV.loc 0 0),(10,LV.int .i64 x10),(11,LV.int .i64 x11)] [Ob.cells [LV.int .i64 o0_0,LV.int .i64 o0_1,LV.str o0_2]]⟩
def uE (x0l x0i:Nat)(x10 x11 o0_0 o0_1:Int)(o0_2:List UInt8)(μ:Mu):=(CW x0l x0i x10 x11 o0_0 o0_1 o0_2).seg ρ μ
def DX (x0l x0i:Nat)(x10 x11 o0_0 o0_1:Int)(o0_2:List UInt8):SegD:=⟨lR,[(4,0),(5,0),(6,0)],cA 167 [1,1,1,1,1,1],mS [(0,LV.cv (CV.ref x0l x0i 0)),(4,LV.loc 0 0),(10,LV.int .i64 x10),(11,LV.int .i64 x11)] [Ob.cells [LV.int .i64 o0_0,LV.int .i64 o0_1,LV.str o0_2]]⟩
def Aa (x0l x0i:Nat)(x10 x11 o0_0 o0_1:Int)(o0_2:List UInt8)(μ:Mu):=(DX x0l x0i x10 x11 o0_0 o0_1 o0_2).seg ρ μ
def qi (x5:Int)(x6:Bool)(o0_0 o0_1:Int)(o0_2:List UInt8)(μ:Mu):St:= .ret (mS [(4,LV.loc 0 0),(5,LV.int .i64 x5),(6,LV.bool x6)] [Ob.cells [LV.int .i64 o0_0,LV.int .i64 o0_1,LV.str o0_2]]) μ
def wL (pv:CV)(μ:Mu):St:= .panic pv (mS [] []) μ
def qC (x5:Int)(x6:Bool)(o0_0 o0_1:Int)(o0_2:List UInt8)(μ:Mu):St:= .ret (mS [(4,LV.loc 0 0),(5,LV.int .i64 x5),(6,LV.bool x6)] [Ob.cells [LV.int .i64 o0_0,LV.int .i64 o0_1,LV.str o0_2]]) μ
def rj (pv:CV)(μ:Mu):St:= .panic pv (mS [] []) μ
theorem LL (x0l x0i x10 x11 o0_0 o0_1 o0_2 μ):(DX x0l x0i x10 x11 o0_0 o0_1 o0_2).sK ρ μ=
 callK (ρ.call 189 [LV.cv (CV.ref x0l x0i 0), LV.int .i64 x10, LV.int .i64 (IntKind.wrap .i64 (x10 + x11))] μ) (fun v39 μ40 =>
 opt (aR v39) fun xs43=>
 opt (aM xs43) fun u44=>
 opt (bv E.P 9 (aZ μ40 x0l x0i) 0) fun v45=>
 opt (aI v45) fun s46=>
 opt (bJ s46 x10 (IntKind.wrap .i64 (x10+x11))) fun s47=>
 callK (ρ.call 86 [LV.str s47] μ40) (fun v48 μ49 =>
 fM v48 fun n52 n53 s54=>
 some (qi (IntKind.wrap .i64 (x10+x11)) true n52 n53 s54 μ49)) (pX wL)) (pX wL):=by kernel_rfl
theorem Cd (x5 x6 o0_0 o0_1 o0_2 μ):kS ρ lR [] [(4,0),(5,0),(6,0)] (qi x5 x6 o0_0 o0_1 o0_2 μ)=
 some (qC x5 x6 o0_0 o0_1 o0_2 μ):=by kernel_rfl
theorem Ko (x0l x0i x10 x11 o0_0 o0_1 o0_2 μ):(CW x0l x0i x10 x11 o0_0 o0_1 o0_2).sK ρ μ=
 opt (bv E.P 9 (aZ μ x0l x0i) 0) fun v31=>
 opt (aI v31) fun s32=>
 cond (decide ((List.length s32 : Int) < IntKind.wrap .i64 (x10 + x11))) (
 callK (ρ.call 170 [LV.int .i64 (7 : Int)] μ) (fun v33 μ34 =>
 opt (aR v33) fun xs37=>
 opt (aM xs37) fun u38=>
 opt (Aa ρ x0l x0i x10 x11 o0_0 o0_1 o0_2 μ34) (kS ρ lR [] [(4,0),(5,0),(6,0)])) (pX rj)) (
 opt (Aa ρ x0l x0i x10 x11 o0_0 o0_1 o0_2 μ) (kS ρ lR [] [(4,0),(5,0),(6,0)])):=by kernel_rfl
theorem Ca (x5 x6 o0_0 o0_1 o0_2 μ):kB ρ 167 lR [] (qC x5 x6 o0_0 o0_1 o0_2 μ)=
 some (.ret (LV.ltup [LV.cv (CV.agg [CV.int .i64 o0_0,CV.int .i64 o0_1,CV.str o0_2]),LV.int .i64 x5,LV.bool x6]) μ):=by kernel_rfl
theorem A5 (pv μ):kB ρ 167 lR [] (rj pv μ)=
 az (below (List.length μ) pv) (some (.panic pv μ)):=by kernel_rfl
theorem P2 (al ai b μ):aG E ρ 167 [LV.cv (CV.ref al ai 0),LV.int .i64 b] μ=
 callK (ρ.call 169 [LV.cv (CV.ref al ai 0), LV.int .i64 b, LV.cv (CV.clo 132 [])] μ) (fun v1 μ2 =>
 opt (aR v1) fun xs5=>
 opt (aA xs5) fun q6=>
 opt (aI q6.1) fun s7=>
 opt (aA q6.2) fun q8=>
 opt (aE .i64 q8.1) fun n9=>
 opt (aM q8.2) fun u10=>
 callK (ρ.call 168 [LV.cv (CV.ref al ai 0), LV.int .i64 n9] μ2) (fun v11 μ12 =>
 opt (aR v11) fun xs15=>
 opt (aA xs15) fun q16=>
 opt (aE .u8 q16.1) fun n17=>
 opt (aA q16.2) fun q18=>
 opt (aE .i64 q18.1) fun n19=>
 opt (aM q18.2) fun u20=>
 callK (ρ.call 45 [LV.str s7] μ12) (fun v21 μ22 =>
 opt (aR v21) fun xs25=>
 opt (aA xs25) fun q26=>
 opt (aE .i64 q26.1) fun n27=>
 opt (aA q26.2) fun q28=>
 opt (de q28.1) fun c29=>
 opt (aM q28.2) fun u30=>
 cond (decide ((2 : Int) < (List.length s7 : Int))) (
 some (.ret (LV.ltup [LV.cv (CV.agg [CV.int .i64 (0:Int),CV.int .i64 (0:Int),CV.str ([]:List UInt8)]),LV.int .i64 b,LV.bool false]) μ22)) (
 cond (decide (n27 < (1 : Int))) (
 some (.ret (LV.ltup [LV.cv (CV.agg [CV.int .i64 (0:Int),CV.int .i64 (0:Int),CV.str ([]:List UInt8)]),LV.int .i64 b,LV.bool false]) μ22)) (
 cond (decide ((60 : Int) < n27)) (
 some (.ret (LV.ltup [LV.cv (CV.agg [CV.int .i64 (0:Int),CV.int .i64 (0:Int),CV.str ([]:List UInt8)]),LV.int .i64 b,LV.bool false]) μ22)) (
 cond (!decide (n17 = (72 : Int))) (
 cond (!decide (n17 = (104 : Int))) (
 some (.ret (LV.ltup [LV.cv (CV.agg [CV.int .i64 (0:Int),CV.int .i64 (0:Int),CV.str ([]:List UInt8)]),LV.int .i64 b,LV.bool false]) μ22)) (
 opt (uE ρ al ai n19 n27 (0:Int) (0:Int) ([]:List UInt8) μ22) (kB ρ 167 lR []))) (
 opt (uE ρ al ai n19 n27 (0:Int) (0:Int) ([]:List UInt8) μ22) (kB ρ 167 lR [])))))) pP) pP) pP:=by kernel_rfl
def C2 (x0l x0i:Nat)(x1:Int):SegD:=⟨Fq,[(4,0),(5,0)],cA 168 [1,1,1],mS [(0,LV.cv (CV.ref x0l x0i 0)),(1,LV.int .i64 x1)] []⟩
def Ha (x0l x0i:Nat)(x1:Int)(μ:Mu):=(C2 x0l x0i x1).seg ρ μ
def qp (x4 x5:Int)(μ:Mu):St:= .ret (mS [(4,LV.int .u8 x4),(5,LV.int .i64 x5)] []) μ
theorem LM (x0l x0i x1 μ):(C2 x0l x0i x1).sK ρ μ=
 opt (bv E.P 9 (aZ μ x0l x0i) 0) fun v8=>
 opt (aI v8) fun s9=>
 opt (aX s9 x1) fun y10=>
 some (qp (y10.toNat:Int) (IntKind.wrap .i64 (x1+(1:Int))) μ):=by kernel_rfl
theorem A3 (x4 x5 μ):kB ρ 168 Fq [] (qp x4 x5 μ)=
 some (.ret (LV.ltup [LV.int .u8 x4,LV.int .i64 x5]) μ):=by kernel_rfl
theorem Qb (al ai b μ):aG E ρ 168 [LV.cv (CV.ref al ai 0),LV.int .i64 b] μ=
 callK (ρ.call 190 [LV.cv (CV.ref al ai 0), LV.int .i64 b] μ) (fun v1 μ2 =>
 opt (aE .i64 v1) fun n5=>
 opt (bv E.P 9 (aZ μ2 al ai) 0) fun v6=>
 opt (aI v6) fun s7=>
 cond (decide ((List.length s7 : Int) ≤ n5)) (
 some (.ret (LV.ltup [LV.int .u8 (0:Int),LV.int .i64 n5]) μ2)) (
 opt (Ha ρ al ai n5 μ2) (kB ρ 168 Fq []))) pP:=by kernel_rfl
def DB (x0l x0i:Nat)(x1:Int)(x2f:FuncId)(x8:List CV):SegD:=⟨sY,[],cA 169 [1,1,0,0],mS [(0,LV.cv (CV.ref x0l x0i 0)),(1,LV.int .i64 x1),(2,LV.cv (CV.clo x2f [])),(8,LV.osl x8)] []⟩
def yc (x0l x0i:Nat)(x1:Int)(x2f:FuncId)(x8:List CV)(μ:Mu):=(DB x0l x0i x1 x2f x8).loop ρ μ
def mI (x6:List UInt8)(x7:Int)(μ:Mu):St:= .ret (mS [(6,LV.str x6),(7,LV.int .i64 x7)] []) μ
def DL (x0l x0i:Nat)(x2f:FuncId)(x8:List CV)(x9 x10:Int):SegD:=⟨sY,[(0,0),(1,0),(2,0),(8,1)],cA 169 [1,1,0,0,0,1,1],mS [(0,LV.cv (CV.ref x0l x0i 0)),(2,LV.cv (CV.clo x2f [])),(8,LV.osl x8),(9,LV.int .u8 x9),(10,LV.int .i64 x10)] []⟩
def IX (x0l x0i:Nat)(x2f:FuncId)(x8:List CV)(x9 x10:Int)(μ:Mu):=(DL x0l x0i x2f x8 x9 x10).seg ρ μ
def ra (x0l x0i:Nat)(x1:Int)(x2f:FuncId)(x8:List CV)(μ:Mu):St:= .norm (mS [(0,LV.cv (CV.ref x0l x0i 0)),(1,LV.int .i64 x1),(2,LV.cv (CV.clo x2f [])),(8,LV.osl x8)] []) μ
def w8 (pv:CV)(μ:Mu):St:= .panic pv (mS [] []) μ
theorem Lo (x0l x0i x2f x8 x9 x10 μ):(DL x0l x0i x2f x8 x9 x10).sK ρ μ=
 az (gg 1 x8 [CV.int .u8 x9]) (
 some (ra x0l x0i x10 x2f (x8++[CV.int .u8 x9]) μ)):=by kernel_rfl
theorem BC (x0l x0i x1 x2f x8 μ):kR ρ sY [.block 1] [] (cA 169 [1,1,0,0]) (ra x0l x0i x1 x2f x8 μ)=
 yc ρ x0l x0i x1 x2f x8 μ:=by kernel_rfl
theorem Af (x0l x0i x1 x2f x8 μ):(DB x0l x0i x1 x2f x8).rK ρ μ=
 callK (ρ.call 168 [LV.cv (CV.ref x0l x0i 0), LV.int .i64 x1] μ) (fun v1 μ2 =>
 opt (aR v1) fun xs5=>
 opt (aA xs5) fun q6=>
 opt (aE .u8 q6.1) fun n7=>
 opt (aA q6.2) fun q8=>
 opt (aE .i64 q8.1) fun n9=>
 opt (aM q8.2) fun u10=>
 cond (decide (n7 = (0 : Int))) (
 opt (bd x8) fun s11=>
 some (mI s11 x1 μ2)) (
 callK (ρ.call x2f [LV.int .u8 n7] μ2) (fun v12 μ13 =>
 opt (aN v12) fun b16=>
 cond (!b16) (
 opt (bd x8) fun s17=>
 some (mI s17 x1 μ13)) (
 opt (IX ρ x0l x0i x2f x8 n7 n9 μ13) (kR ρ sY [.block 1] [] (cA 169 [1,1,0,0])))) (pX w8))) (pX w8):=by kernel_rfl
theorem BM (x6 x7 μ):kB ρ 169 sY [.block 0] (mI x6 x7 μ)=
 some (.ret (LV.ltup [LV.str x6,LV.int .i64 x7]) μ):=by kernel_rfl
theorem PX (al ai b cf μ):aG E ρ 169 [LV.cv (CV.ref al ai 0),LV.int .i64 b,LV.cv (CV.clo cf [])] μ=
 opt (yc ρ al ai b cf [] μ) (kB ρ 169 sY [.block 0]):=by kernel_rfl
theorem PK (a μ):aG E ρ 170 [LV.int .i64 a] μ=
 some (.panic (CV.iface 162 (CV.agg [CV.int .i64 a])) μ):=by kernel_rfl
def DK (x0l x0i:Nat)(x1:Int)(x6 x7:List UInt8)(x8:Bool)(o0_0 o0_1:Int)(o0_2:List UInt8):SegD:=⟨cC,[(4,0),(5,0)],cA 171 [1,1,1,1],mS [(0,LV.cv (CV.ref x0l x0i 0)),(1,LV.int .i64 x1),(4,LV.loc 0 0),(6,LV.str x6),(7,LV.str x7),(8,LV.bool x8)] [Ob.cells [LV.int .i64 o0_0,LV.int .i64 o0_1,LV.str o0_2]]⟩
def ny (x0l x0i:Nat)(x1:Int)(x6 x7:List UInt8)(x8:Bool)(o0_0 o0_1:Int)(o0_2:List UInt8)(μ:Mu):=(DK x0l x0i x1 x6 x7 x8 o0_0 o0_1 o0_2).seg ρ μ
def iU (x5 o0_0 o0_1:Int)(o0_2:List UInt8)(μ:Mu):St:= .ret (mS [(4,LV.loc 0 0),(5,LV.int .i64 x5)] [Ob.cells [LV.int .i64 o0_0,LV.int .i64 o0_1,LV.str o0_2]]) μ
def gK (pv:CV)(μ:Mu):St:= .panic pv (mS [] []) μ
def zp (x1:Int)(x6 x7:List UInt8)(x14:Int)(x15:List UInt8)(x16:Int)(x17:Bool)(o0_0 o0_1:Int)(o0_2:List UInt8):SegD:=⟨cC,[(4,0),(5,0)],cA 171 [1,1,1,1,1,1],mS [(1,LV.int .i64 x1),(4,LV.loc 0 0),(6,LV.str x6),(7,LV.str x7),(14,LV.int .u8 x14),(15,LV.str x15),(16,LV.int .i64 x16),(17,LV.bool x17)] [Ob.cells [LV.int .i64 o0_0,LV.int .i64 o0_1,LV.str o0_2]]⟩
def wh (x1:Int)(x6 x7:List UInt8)(x14:Int)(x15:List UInt8)(x16:Int)(x17:Bool)(o0_0 o0_1:Int)(o0_2:List UInt8)(μ:Mu):=(zp x1 x6 x7 x14 x15 x16 x17 o0_0 o0_1 o0_2).seg ρ μ
def Ai (x1:Int)(x6 x7:List UInt8)(x14:Int)(x15:List UInt8)(x17:Bool)(o0_0 o0_1:Int)(o0_2:List UInt8):SegD:=⟨cC,[(4,0),(5,0)],cA 171 [1,1,1,1,1,1,1],mS [(1,LV.int .i64 x1),(4,LV.loc 0 0),(6,LV.str x6),(7,LV.str x7),(14,LV.int .u8 x14),(15,LV.str x15),(17,LV.bool x17)] [Ob.cells [LV.int .i64 o0_0,LV.int .i64 o0_1,LV.str o0_2]]⟩
def wg (x1:Int)(x6 x7:List UInt8)(x14:Int)(x15:List UInt8)(x17:Bool)(o0_0 o0_1:Int)(o0_2:List UInt8)(μ:Mu):=(Ai x1 x6 x7 x14 x15 x17 o0_0 o0_1 o0_2).seg ρ μ
def ze (x1:Int)(x6 x7:List UInt8)(x14:Int)(x15:List UInt8)(x17:Bool)(o0_0 o0_1:Int)(o0_2:List UInt8):SegD:=⟨cC,[(4,0),(5,0)],cA 171 [1,1,1,1,1,1,1,1],mS [(1,LV.int .i64 x1),(4,LV.loc 0 0),(6,LV.str x6),(7,LV.str x7),(14,LV.int .u8 x14),(15,LV.str x15),(17,LV.bool x17)] [Ob.cells [LV.int .i64 o0_0,LV.int .i64 o0_1,LV.str o0_2]]⟩
def nn (x1:Int)(x6 x7:List UInt8)(x14:Int)(x15:List UInt8)(x17:Bool)(o0_0 o0_1:Int)(o0_2:List UInt8)(μ:Mu):=(ze x1 x6 x7 x14 x15 x17 o0_0 o0_1 o0_2).seg ρ μ
def yB (x1 x14:Int)(x17:Bool)(x18 x19:List UInt8)(o0_0 o0_1:Int)(o0_2:List UInt8):SegD:=⟨cC,[(4,0),(5,0)],cA 171 [1,1,1,1,1,1,1,1,1,1,1],mS [(1,LV.int .i64 x1),(4,LV.loc 0 0),(14,LV.int .u8 x14),(17,LV.bool x17),(18,LV.str x18),(19,LV.str x19)] [Ob.cells [LV.int .i64 o0_0,LV.int .i64 o0_1,LV.str o0_2]]⟩
def vU (x1 x14:Int)(x17:Bool)(x18 x19:List UInt8)(o0_0 o0_1:Int)(o0_2:List UInt8)(μ:Mu):=(yB x1 x14 x17 x18 x19 o0_0 o0_1 o0_2).seg ρ μ
def lk (x5 o0_0 o0_1:Int)(o0_2:List UInt8)(μ:Mu):St:= .ret (mS [(4,LV.loc 0 0),(5,LV.int .i64 x5)] [Ob.cells [LV.int .i64 o0_0,LV.int .i64 o0_1,LV.str o0_2]]) μ
def yj (x1:Int)(x18 x19:List UInt8)(o0_0 o0_1:Int)(o0_2:List UInt8):SegD:=⟨cC,[(4,0),(5,0)],cA 171 [1,1,1,1,1,1,1,1,1,1,1,1],mS [(1,LV.int .i64 x1),(4,LV.loc 0 0),(18,LV.str x18),(19,LV.str x19)] [Ob.cells [LV.int .i64 o0_0,LV.int .i64 o0_1,LV.str o0_2]]⟩
def wi (x1:Int)(x18 x19:List UInt8)(o0_0 o0_1:Int)(o0_2:List UInt8)(μ:Mu):=(yj x1 x18 x19 o0_0 o0_1 o0_2).seg ρ μ
def lm (x5 o0_0 o0_1:Int)(o0_2:List UInt8)(μ:Mu):St:= .ret (mS [(4,LV.loc 0 0),(5,LV.int .i64 x5)] [Ob.cells [LV.int .i64 o0_0,LV.int .i64 o0_1,LV.str o0_2]]) μ
def oA (x5 o0_0 o0_1:Int)(o0_2:List UInt8)(μ:Mu):St:= .ret (mS [(4,LV.loc 0 0),(5,LV.int .i64 x5)] [Ob.cells [LV.int .i64 o0_0,LV.int .i64 o0_1,LV.str o0_2]]) μ
def ld (pv:CV)(μ:Mu):St:= .panic pv (mS [] []) μ
def pf (x5 o0_0 o0_1:Int)(o0_2:List UInt8)(μ:Mu):St:= .ret (mS [(4,LV.loc 0 0),(5,LV.int .i64 x5)] [Ob.cells [LV.int .i64 o0_0,LV.int .i64 o0_1,LV.str o0_2]]) μ
def g7 (pv:CV)(μ:Mu):St:= .panic pv (mS [] []) μ
def lu (x5 o0_0 o0_1:Int)(o0_2:List UInt8)(μ:Mu):St:= .ret (mS [(4,LV.loc 0 0),(5,LV.int .i64 x5)] [Ob.cells [LV.int .i64 o0_0,LV.int .i64 o0_1,LV.str o0_2]]) μ
def lf (pv:CV)(μ:Mu):St:= .panic pv (mS [] []) μ
theorem Hq (x1 x18 x19 o0_0 o0_1 o0_2 μ):(yj x1 x18 x19 o0_0 o0_1 o0_2).sK ρ μ=
 cond (!decide (x19 = ([48] : List UInt8))) (
 az (a6 (List.length ([69] : List UInt8) + List.length x19)) (
 az (a6 (List.length x18 + List.length (([69] : List UInt8) ++ x19))) (
 some (lm x1 (1:Int) (1:Int) (x18++(([69]:List UInt8)++x19)) μ)))) (
 some (lm x1 (1:Int) (1:Int) x18 μ)):=by kernel_rfl
theorem AB (x5 o0_0 o0_1 o0_2 μ):kS ρ cC [] [(4,0),(5,0)] (lm x5 o0_0 o0_1 o0_2 μ)=
 some (lk x5 o0_0 o0_1 o0_2 μ):=by kernel_rfl
theorem Hc (x1 x14 x17 x18 x19 o0_0 o0_1 o0_2 μ):(yB x1 x14 x17 x18 x19 o0_0 o0_1 o0_2).sK ρ μ=
 cond (decide (x14 = (68 : Int))) (
 cond (x17) (
 az (a6 (List.length x18 + List.length ([68] : List UInt8))) (
 az (a6 (List.length (x18 ++ ([68] : List UInt8)) + List.length x19)) (
 some (lk x1 (1:Int) (2:Int) ((x18++([68]:List UInt8))++x19) μ)))) (
 opt (wi ρ x1 x18 x19 o0_0 o0_1 o0_2 μ) (kS ρ cC [] [(4,0),(5,0)]))) (
 opt (wi ρ x1 x18 x19 o0_0 o0_1 o0_2 μ) (kS ρ cC [] [(4,0),(5,0)])):=by kernel_rfl
theorem qx (x5 o0_0 o0_1 o0_2 μ):kS ρ cC [] [(4,0),(5,0)] (lk x5 o0_0 o0_1 o0_2 μ)=
 some (oA x5 o0_0 o0_1 o0_2 μ):=by kernel_rfl
theorem Js (x1 x6 x7 x14 x15 x17 o0_0 o0_1 o0_2 μ):(ze x1 x6 x7 x14 x15 x17 o0_0 o0_1 o0_2).sK ρ μ=
 callK (ρ.call 65 [LV.str x6, LV.bool true] μ) (fun v75 μ76 =>
 opt (aI v75) fun s79=>
 az (a6 (List.length s79 + List.length ([46] : List UInt8))) (
 callK (ρ.call 65 [LV.str x7, LV.bool false] μ76) (fun v80 μ81 =>
 opt (aI v80) fun s84=>
 az (a6 (List.length (s79 ++ ([46] : List UInt8)) + List.length s84)) (
 cond (x17) (
 callK (ρ.call 45 [LV.str x15] μ81) (fun v85 μ86 =>
 opt (aR v85) fun xs89=>
 opt (aA xs89) fun q90=>
 opt (aE .i64 q90.1) fun n91=>
 opt (aA q90.2) fun q92=>
 opt (de q92.1) fun c93=>
 opt (aM q92.2) fun u94=>
 callK (ρ.call 66 [LV.int .i64 n91] μ86) (fun v95 μ96 =>
 opt (aI v95) fun s99=>
 opt (vU ρ x1 x14 x17 ((s79++([46]:List UInt8))++s84) s99 o0_0 o0_1 o0_2 μ96) (kS ρ cC [] [(4,0),(5,0)])) (pX ld)) (pX ld)) (
 opt (vU ρ x1 x14 x17 ((s79++([46]:List UInt8))++s84) ([48]:List UInt8) o0_0 o0_1 o0_2 μ81) (kS ρ cC [] [(4,0),(5,0)])))) (pX ld))) (pX ld):=by kernel_rfl
theorem yN (x5 o0_0 o0_1 o0_2 μ):kS ρ cC [] [(4,0),(5,0)] (oA x5 o0_0 o0_1 o0_2 μ)=
 some (pf x5 o0_0 o0_1 o0_2 μ):=by kernel_rfl
theorem Iv (x1 x6 x7 x14 x15 x17 o0_0 o0_1 o0_2 μ):(Ai x1 x6 x7 x14 x15 x17 o0_0 o0_1 o0_2).sK ρ μ=
 callK (ρ.call 193 [LV.str x6, LV.str x7] μ) (fun v64 μ65 =>
 opt (aE .i64 v64) fun n68=>
 cond (decide ((30 : Int) < n68)) (
 callK (ρ.call 170 [LV.int .i64 (7 : Int)] μ65) (fun v69 μ70 =>
 opt (aR v69) fun xs73=>
 opt (aM xs73) fun u74=>
 opt (nn ρ x1 x6 x7 x14 x15 x17 o0_0 o0_1 o0_2 μ70) (kS ρ cC [] [(4,0),(5,0)])) (pX g7)) (
 callK (ρ.call 194 [LV.str x15, LV.str ([45] : List UInt8)] μ65) (fun v105 μ106 =>
 opt (aI v105) fun s109=>
 cond (decide ((3 : Int) < (List.length s109 : Int))) (
 cond (x17) (
 callK (ρ.call 170 [LV.int .i64 (7 : Int)] μ106) (fun v110 μ111 =>
 opt (aR v110) fun xs114=>
 opt (aM xs114) fun u115=>
 opt (nn ρ x1 x6 x7 x14 x15 x17 o0_0 o0_1 o0_2 μ111) (kS ρ cC [] [(4,0),(5,0)])) (pX g7)) (
 opt (nn ρ x1 x6 x7 x14 x15 x17 o0_0 o0_1 o0_2 μ106) (kS ρ cC [] [(4,0),(5,0)]))) (
 opt (nn ρ x1 x6 x7 x14 x15 x17 o0_0 o0_1 o0_2 μ106) (kS ρ cC [] [(4,0),(5,0)]))) (pX g7))) (pX g7):=by kernel_rfl
theorem qX (x5 o0_0 o0_1 o0_2 μ):kS ρ cC [] [(4,0),(5,0)] (pf x5 o0_0 o0_1 o0_2 μ)=
 some (lu x5 o0_0 o0_1 o0_2 μ):=by kernel_rfl
theorem qI (pv μ):kS ρ cC [] [(4,0),(5,0)] (g7 pv μ)=
 some (lf pv μ):=by kernel_rfl
theorem JB (x1 x6 x7 x14 x15 x16 x17 o0_0 o0_1 o0_2 μ):(zp x1 x6 x7 x14 x15 x16 x17 o0_0 o0_1 o0_2).sK ρ μ=
 cond (x17) (
 opt (wg ρ x16 x6 x7 x14 x15 x17 o0_0 o0_1 o0_2 μ) (kS ρ cC [] [(4,0),(5,0)])) (
 opt (wg ρ x1 x6 x7 x14 x15 x17 o0_0 o0_1 o0_2 μ) (kS ρ cC [] [(4,0),(5,0)])):=by kernel_rfl
theorem AN (x5 o0_0 o0_1 o0_2 μ):kS ρ cC [] [(4,0),(5,0)] (lu x5 o0_0 o0_1 o0_2 μ)=
 some (iU x5 o0_0 o0_1 o0_2 μ):=by kernel_rfl
theorem zy (pv μ):kS ρ cC [] [(4,0),(5,0)] (lf pv μ)=
 some (gK pv μ):=by kernel_rfl
theorem JX (x0l x0i x1 x6 x7 x8 o0_0 o0_1 o0_2 μ):(DK x0l x0i x1 x6 x7 x8 o0_0 o0_1 o0_2).sK ρ μ=
 callK (ρ.call 191 [LV.cv (CV.ref x0l x0i 0), LV.int .i64 x1] μ) (fun v43 μ44 =>
 opt (aR v43) fun xs47=>
 opt (aA xs47) fun q48=>
 opt (aE .u8 q48.1) fun n49=>
 opt (aA q48.2) fun q50=>
 opt (aI q50.1) fun s51=>
 opt (aA q50.2) fun q52=>
 opt (aE .i64 q52.1) fun n53=>
 opt (aA q52.2) fun q54=>
 opt (aN q54.1) fun b55=>
 opt (aM q54.2) fun u56=>
 cond (!x8) (
 cond (!b55) (
 callK (ρ.call 192 [LV.str x6] μ44) (fun v57 μ58 =>
 fM v57 fun n61 n62 s63=>
 some (iU x1 n61 n62 s63 μ58)) (pX gK)) (
 opt (wh ρ x1 x6 x7 n49 s51 n53 b55 o0_0 o0_1 o0_2 μ44) (kS ρ cC [] [(4,0),(5,0)]))) (
 opt (wh ρ x1 x6 x7 n49 s51 n53 b55 o0_0 o0_1 o0_2 μ44) (kS ρ cC [] [(4,0),(5,0)]))) (pX gK):=by kernel_rfl
theorem AT (x5 o0_0 o0_1 o0_2 μ):kB ρ 171 cC [] (iU x5 o0_0 o0_1 o0_2 μ)=
 some (.ret (LV.ltup [LV.cv (CV.agg [CV.int .i64 o0_0,CV.int .i64 o0_1,CV.str o0_2]),LV.int .i64 x5]) μ):=by kernel_rfl
theorem Ce (pv μ):kB ρ 171 cC [] (gK pv μ)=
 az (below (List.length μ) pv) (some (.panic pv μ)):=by kernel_rfl
theorem PB (al ai b μ):aG E ρ 171 [LV.cv (CV.ref al ai 0),LV.int .i64 b] μ=
 callK (ρ.call 169 [LV.cv (CV.ref al ai 0), LV.int .i64 b, LV.cv (CV.clo 132 [])] μ) (fun v1 μ2 =>
 opt (aR v1) fun xs5=>
 opt (aA xs5) fun q6=>
 opt (aI q6.1) fun s7=>
 opt (aA q6.2) fun q8=>
 opt (aE .i64 q8.1) fun n9=>
 opt (aM q8.2) fun u10=>
 callK (ρ.call 168 [LV.cv (CV.ref al ai 0), LV.int .i64 n9] μ2) (fun v11 μ12 =>
 opt (aR v11) fun xs15=>
 opt (aA xs15) fun q16=>
 opt (aE .u8 q16.1) fun n17=>
 opt (aA q16.2) fun q18=>
 opt (aE .i64 q18.1) fun n19=>
 opt (aM q18.2) fun u20=>
 cond (decide (n17 = (46 : Int))) (
 callK (ρ.call 172 [LV.cv (CV.ref al ai 0), LV.int .i64 n9] μ12) (fun v21 μ22 =>
 opt (aR v21) fun xs25=>
 opt (aA xs25) fun q26=>
 opt (aI q26.1) fun s27=>
 opt (aA q26.2) fun q28=>
 opt (aE .i64 q28.1) fun n29=>
 opt (aA q28.2) fun q30=>
 opt (aN q30.1) fun b31=>
 opt (aM q30.2) fun u32=>
 cond (!b31) (
 callK (ρ.call 169 [LV.cv (CV.ref al ai 0), LV.int .i64 n19, LV.cv (CV.clo 132 [])] μ22) (fun v33 μ34 =>
 opt (aR v33) fun xs37=>
 opt (aA xs37) fun q38=>
 opt (aI q38.1) fun s39=>
 opt (aA q38.2) fun q40=>
 opt (aE .i64 q40.1) fun n41=>
 opt (aM q40.2) fun u42=>
 opt (ny ρ al ai n41 s7 s39 true (0:Int) (0:Int) ([]:List UInt8) μ34) (kB ρ 171 cC [])) pP) (
 cond (decide (s7 = ([] : List UInt8))) (
 callK (ρ.call 169 [LV.cv (CV.ref al ai 0), LV.int .i64 n19, LV.cv (CV.clo 132 [])] μ22) (fun v124 μ125 =>
 opt (aR v124) fun xs128=>
 opt (aA xs128) fun q129=>
 opt (aI q129.1) fun s130=>
 opt (aA q129.2) fun q131=>
 opt (aE .i64 q131.1) fun n132=>
 opt (aM q131.2) fun u133=>
 opt (ny ρ al ai n132 s7 s130 true (0:Int) (0:Int) ([]:List UInt8) μ125) (kB ρ 171 cC [])) pP) (
 opt (ny ρ al ai n9 s7 ([]:List UInt8) false (0:Int) (0:Int) ([]:List UInt8) μ22) (kB ρ 171 cC [])))) pP) (
 opt (ny ρ al ai n9 s7 ([]:List UInt8) false (0:Int) (0:Int) ([]:List UInt8) μ12) (kB ρ 171 cC []))) pP) pP:=by kernel_rfl
def Dt (x0l x0i:Nat)(x8:Int):SegD:=⟨E9,[(4,0),(5,0),(6,0)],cA 172 [1,1,1],mS [(0,LV.cv (CV.ref x0l x0i 0)),(8,LV.int .i64 x8)] []⟩
def HS (x0l x0i:Nat)(x8:Int)(μ:Mu):=(Dt x0l x0i x8).seg ρ μ
def fC (x4:List UInt8)(x5:Int)(x6:Bool)(μ:Mu):St:= .ret (mS [(4,LV.str x4),(5,LV.int .i64 x5),(6,LV.bool x6)] []) μ
def kJ (pv:CV)(μ:Mu):St:= .panic pv (mS [] []) μ
theorem Kv (x0l x0i x8 μ):(Dt x0l x0i x8).sK ρ μ=
 callK (ρ.call 169 [LV.cv (CV.ref x0l x0i 0), LV.int .i64 x8, LV.cv (CV.clo 90 [])] μ) (fun v11 μ12 =>
 opt (aR v11) fun xs15=>
 opt (aA xs15) fun q16=>
 opt (aI q16.1) fun s17=>
 opt (aA q16.2) fun q18=>
 opt (aE .i64 q18.1) fun n19=>
 opt (aM q18.2) fun u20=>
 callK (ρ.call 168 [LV.cv (CV.ref x0l x0i 0), LV.int .i64 n19] μ12) (fun v21 μ22 =>
 opt (aR v21) fun xs25=>
 opt (aA xs25) fun q26=>
 opt (aE .u8 q26.1) fun n27=>
 opt (aA q26.2) fun q28=>
 opt (aE .i64 q28.1) fun n29=>
 opt (aM q28.2) fun u30=>
 callK (ρ.call 91 [LV.str s17] μ22) (fun v31 μ32 =>
 opt (aI v31) fun s35=>
 az (a6 (List.length ([46] : List UInt8) + List.length s35)) (
 az (a6 (List.length (([46] : List UInt8) ++ s35) + List.length ([46] : List UInt8))) (
 callK (ρ.call 51 [] μ32) (fun v36 μ37 =>
 opt (cM v36) fun l40=>
 callK (ρ.call 50 [LV.cv (CV.sl l40), LV.str ((([46] : List UInt8) ++ s35) ++ ([46] : List UInt8))] μ37) (fun v41 μ42 =>
 opt (aN v41) fun b45=>
 cond (b45) (
 cond (decide (n27 = (46 : Int))) (
 some (fC ((([46]:List UInt8)++s35)++([46]:List UInt8)) n29 true μ42)) (
 some (fC ((([46]:List UInt8)++s35)++([46]:List UInt8)) n29 false μ42))) (
 cond (decide ((([46] : List UInt8) ++ s35) ++ ([46] : List UInt8) = ([46, 84, 82, 85, 69, 46] : List UInt8))) (
 cond (decide (n27 = (46 : Int))) (
 some (fC ((([46]:List UInt8)++s35)++([46]:List UInt8)) n29 true μ42)) (
 some (fC ((([46]:List UInt8)++s35)++([46]:List UInt8)) n29 false μ42))) (
 cond (decide (n27 = (46 : Int))) (
 some (fC ((([46]:List UInt8)++s35)++([46]:List UInt8)) n29 (decide ((([46]:List UInt8)++s35)++([46]:List UInt8)=([46,70,65,76,83,69,46]:List UInt8))) μ42)) (
 some (fC ((([46]:List UInt8)++s35)++([46]:List UInt8)) n29 false μ42))))) (pX kJ)) (pX kJ)))) (pX kJ)) (pX kJ)) (pX kJ):=by kernel_rfl
theorem B4 (x4 x5 x6 μ):kB ρ 172 E9 [] (fC x4 x5 x6 μ)=
 some (.ret (LV.ltup [LV.str x4,LV.int .i64 x5,LV.bool x6]) μ):=by kernel_rfl
theorem PC (al ai b μ):aG E ρ 172 [LV.cv (CV.ref al ai 0),LV.int .i64 b] μ=
 callK (ρ.call 168 [LV.cv (CV.ref al ai 0), LV.int .i64 b] μ) (fun v1 μ2 =>
 opt (aR v1) fun xs5=>
 opt (aA xs5) fun q6=>
 opt (aE .u8 q6.1) fun n7=>
 opt (aA q6.2) fun q8=>
 opt (aE .i64 q8.1) fun n9=>
 opt (aM q8.2) fun u10=>
 cond (!decide (n7 = (46 : Int))) (
 some (.ret (LV.ltup [LV.str ([]:List UInt8),LV.int .i64 b,LV.bool false]) μ2)) (
 opt (HS ρ al ai n9 μ2) (kB ρ 172 E9 []))) pP:=by kernel_rfl
def CU (x0l x0i:Nat)(x1:Int)(x6:List UInt8)(x7:Int)(x8:List UInt8)(o0_0 o0_1:Int)(o0_2:List UInt8):SegD:=⟨jg,[(0,0),(1,0),(4,0),(7,0),(8,0)],cA 173 [1,1,1,1,0,1,0,0],mS [(0,LV.cv (CV.ref x0l x0i 0)),(1,LV.int .i64 x1),(4,LV.loc 0 0),(6,LV.str x6),(7,LV.int .i64 x7),(8,LV.str x8)] [Ob.cells [LV.int .i64 o0_0,LV.int .i64 o0_1,LV.str o0_2]]⟩
def yw (x0l x0i:Nat)(x1:Int)(x6:List UInt8)(x7:Int)(x8:List UInt8)(o0_0 o0_1:Int)(o0_2:List UInt8)(μ:Mu):=(CU x0l x0i x1 x6 x7 x8 o0_0 o0_1 o0_2).loop ρ μ
def CH (x0l x0i:Nat)(x1:Int)(x6:List UInt8)(x7:Int)(x8:List UInt8)(x9 o0_0 o0_1:Int)(o0_2:List UInt8):SegD:=⟨jg,[(0,0),(1,0),(4,0),(6,0),(7,0),(8,0)],cA 173 [1,1,1,1,0,1,0,0,0,0,1,1],mS [(0,LV.cv (CV.ref x0l x0i 0)),(1,LV.int .i64 x1),(4,LV.loc 0 0),(6,LV.str x6),(7,LV.int .i64 x7),(8,LV.str x8),(9,LV.int .i64 x9)] [Ob.cells [LV.int .i64 o0_0,LV.int .i64 o0_1,LV.str o0_2]]⟩
def zs (x0l x0i:Nat)(x1:Int)(x6:List UInt8)(x7:Int)(x8:List UInt8)(x9 o0_0 o0_1:Int)(o0_2:List UInt8)(μ:Mu):=(CH x0l x0i x1 x6 x7 x8 x9 o0_0 o0_1 o0_2).seg ρ μ
def mD (x0l x0i:Nat)(x1:Int)(x6:List UInt8)(x7:Int)(x8:List UInt8)(o0_0 o0_1:Int)(o0_2:List UInt8)(μ:Mu):St:= .exit 0 (mS [(0,LV.cv (CV.ref x0l x0i 0)),(1,LV.int .i64 x1),(4,LV.loc 0 0),(6,LV.str x6),(7,LV.int .i64 x7),(8,LV.str x8)] [Ob.cells [LV.int .i64 o0_0,LV.int .i64 o0_1,LV.str o0_2]]) μ
def pV (x0l x0i:Nat)(x1:Int)(x6:List UInt8)(x7:Int)(x8:List UInt8)(o0_0 o0_1:Int)(o0_2:List UInt8)(μ:Mu):St:= .norm (mS [(0,LV.cv (CV.ref x0l x0i 0)),(1,LV.int .i64 x1),(4,LV.loc 0 0),(6,LV.str x6),(7,LV.int .i64 x7),(8,LV.str x8)] [Ob.cells [LV.int .i64 o0_0,LV.int .i64 o0_1,LV.str o0_2]]) μ
def GZ (pv:CV)(μ:Mu):St:= .panic pv (mS [] []) μ
def qP (x0l x0i:Nat)(x1 x7:Int)(x8:List UInt8)(o0_0 o0_1:Int)(o0_2:List UInt8)(μ:Mu):St:= .exit 0 (mS [(0,LV.cv (CV.ref x0l x0i 0)),(1,LV.int .i64 x1),(4,LV.loc 0 0),(7,LV.int .i64 x7),(8,LV.str x8)] [Ob.cells [LV.int .i64 o0_0,LV.int .i64 o0_1,LV.str o0_2]]) μ
def mt (pv:CV)(μ:Mu):St:= .panic pv (mS [] []) μ
def yi (x0l x0i:Nat)(x1 x7:Int)(x8:List UInt8)(o0_0 o0_1:Int)(o0_2:List UInt8):SegD:=⟨jg,[(4,0),(5,0)],cA 173 [1,1,1,1,1,1],mS [(0,LV.cv (CV.ref x0l x0i 0)),(1,LV.int .i64 x1),(4,LV.loc 0 0),(7,LV.int .i64 x7),(8,LV.str x8)] [Ob.cells [LV.int .i64 o0_0,LV.int .i64 o0_1,LV.str o0_2]]⟩
def vD (x0l x0i:Nat)(x1 x7:Int)(x8:List UInt8)(o0_0 o0_1:Int)(o0_2:List UInt8)(μ:Mu):=(yi x0l x0i x1 x7 x8 o0_0 o0_1 o0_2).seg ρ μ
def o4 (x5 o0_0 o0_1:Int)(o0_2:List UInt8)(μ:Mu):St:= .ret (mS [(4,LV.loc 0 0),(5,LV.int .i64 x5)] [Ob.cells [LV.int .i64 o0_0,LV.int .i64 o0_1,LV.str o0_2]]) μ
def uZ (pv:CV)(μ:Mu):St:= .panic pv (mS [] []) μ
theorem KW (x0l x0i x1 x6 x7 x8 x9 o0_0 o0_1 o0_2 μ):(CH x0l x0i x1 x6 x7 x8 x9 o0_0 o0_1 o0_2).sK ρ μ=
 opt (bv E.P 9 (aZ μ x0l x0i) 0) fun v18=>
 opt (aI v18) fun s19=>
 opt (bJ s19 x1 (IntKind.wrap .i64 (x1+x9))) fun s20=>
 az (a6 (List.length x8 + List.length s20)) (
 opt (bv E.P 9 (aZ μ x0l x0i) 0) fun v21=>
 opt (aI v21) fun s22=>
 opt (bJ s22 (IntKind.wrap .i64 (x1+IntKind.wrap .i64 (x9+(1:Int)))) (List.length s22:Int)) fun s23=>
 callK (ρ.call 195 [LV.str s23, LV.str x6] μ) (fun v24 μ25 =>
 opt (aN v24) fun b28=>
 cond (!b28) (
 some (mD x0l x0i (IntKind.wrap .i64 (x1+IntKind.wrap .i64 (x9+(1:Int)))) x6 x7 (x8++s20) o0_0 o0_1 o0_2 μ25)) (
 az (a6 (List.length (x8 ++ s20) + List.length x6)) (
 some (pV x0l x0i (IntKind.wrap .i64 (x1+IntKind.wrap .i64 (x9+(1:Int)))) x6 x7 ((x8++s20)++x6) o0_0 o0_1 o0_2 μ25)))) (pX GZ)):=by kernel_rfl
theorem r6 (x0l x0i x1 x6 x7 x8 o0_0 o0_1 o0_2 μ):kR ρ jg [.block 1,.seq (cA 173 [1,1,1,1,0,1,0,0,1])] [(0,0),(1,0),(4,0),(7,0),(8,0)] (cA 173 [1,1,1,1,0,1,0,0]) (mD x0l x0i x1 x6 x7 x8 o0_0 o0_1 o0_2 μ)=
 some (qP x0l x0i x1 x7 x8 o0_0 o0_1 o0_2 μ):=by kernel_rfl
theorem Bo (x0l x0i x1 x6 x7 x8 o0_0 o0_1 o0_2 μ):kR ρ jg [.block 1,.seq (cA 173 [1,1,1,1,0,1,0,0,1])] [(0,0),(1,0),(4,0),(7,0),(8,0)] (cA 173 [1,1,1,1,0,1,0,0]) (pV x0l x0i x1 x6 x7 x8 o0_0 o0_1 o0_2 μ)=
 yw ρ x0l x0i (IntKind.wrap .i64 (x1+(1:Int))) x6 x7 x8 o0_0 o0_1 o0_2 μ:=by kernel_rfl
theorem zX (x0l x0i x1 x6 x7 x8 o0_0 o0_1 o0_2 μ):(CU x0l x0i x1 x6 x7 x8 o0_0 o0_1 o0_2).rK ρ μ=
 opt (bv E.P 9 (aZ μ x0l x0i) 0) fun v4=>
 opt (aI v4) fun s5=>
 opt (bJ s5 x1 (List.length s5:Int)) fun s6=>
 callK (ρ.call 145 [LV.str s6, LV.str x6] μ) (fun v7 μ8 =>
 opt (aE .i64 v7) fun n11=>
 cond (decide (n11 < (0 : Int))) (
 callK (ρ.call 170 [LV.int .i64 (7 : Int)] μ8) (fun v12 μ13 =>
 opt (aR v12) fun xs16=>
 opt (aM xs16) fun u17=>
 opt (zs ρ x0l x0i x1 x6 x7 x8 n11 o0_0 o0_1 o0_2 μ13) (kR ρ jg [.block 1,.seq (cA 173 [1,1,1,1,0,1,0,0,1])] [(0,0),(1,0),(4,0),(7,0),(8,0)] (cA 173 [1,1,1,1,0,1,0,0]))) (pX mt)) (
 opt (zs ρ x0l x0i x1 x6 x7 x8 n11 o0_0 o0_1 o0_2 μ8) (kR ρ jg [.block 1,.seq (cA 173 [1,1,1,1,0,1,0,0,1])] [(0,0),(1,0),(4,0),(7,0),(8,0)] (cA 173 [1,1,1,1,0,1,0,0])))) (pX mt):=by kernel_rfl
theorem JH (x0l x0i x1 x7 x8 o0_0 o0_1 o0_2 μ):(yi x0l x0i x1 x7 x8 o0_0 o0_1 o0_2).sK ρ μ=
 callK (ρ.call 189 [LV.cv (CV.ref x0l x0i 0), LV.int .i64 x7, LV.int .i64 x1] μ) (fun v37 μ38 =>
 opt (aR v37) fun xs41=>
 opt (aM xs41) fun u42=>
 callK (ρ.call 86 [LV.str x8] μ38) (fun v43 μ44 =>
 fM v43 fun n47 n48 s49=>
 some (o4 x1 n47 n48 s49 μ44)) (pX uZ)) (pX uZ):=by kernel_rfl
theorem zS (x5 o0_0 o0_1 o0_2 μ):kB ρ 173 jg [] (o4 x5 o0_0 o0_1 o0_2 μ)=
 some (.ret (LV.ltup [LV.cv (CV.agg [CV.int .i64 o0_0,CV.int .i64 o0_1,CV.str o0_2]),LV.int .i64 x5]) μ):=by kernel_rfl
theorem AW (x0l x0i x1 x7 x8 o0_0 o0_1 o0_2 μ):kB ρ 173 jg [.block 0,.seq (cA 173 [1,1,1,1,1])] (qP x0l x0i x1 x7 x8 o0_0 o0_1 o0_2 μ)=
 cond (decide ((60 : Int) < (List.length x8 : Int))) (
 callK (ρ.call 170 [LV.int .i64 (8 : Int)] μ) (fun v31 μ32 =>
 opt (aR v31) fun xs35=>
 opt (aM xs35) fun u36=>
 opt (vD ρ x0l x0i x1 x7 x8 o0_0 o0_1 o0_2 μ32) (kB ρ 173 jg [])) pP) (
 opt (vD ρ x0l x0i x1 x7 x8 o0_0 o0_1 o0_2 μ) (kB ρ 173 jg [])):=by kernel_rfl
theorem BV (pv μ):kB ρ 173 jg [.block 0,.seq (cA 173 [1,1,1,1,1])] (mt pv μ)=
 az (below (List.length μ) pv) (some (.panic pv μ)):=by kernel_rfl
theorem PJ (al ai b μ):aG E ρ 173 [LV.cv (CV.ref al ai 0),LV.int .i64 b] μ=
 opt (bv E.P 9 (aZ μ al ai) 0) fun v1=>
 opt (aI v1) fun s2=>
 opt (bJ s2 b (IntKind.wrap .i64 (b+(1:Int)))) fun s3=>
 opt (yw ρ al ai (IntKind.wrap .i64 (b+(1:Int))) s3 b ([]:List UInt8) (0:Int) (0:Int) ([]:List UInt8) μ) (kB ρ 173 jg [.block 0,.seq (cA 173 [1,1,1,1,1])]):=by kernel_rfl
def Cy (x6 x7 x8 x9:Int)(x10:List UInt8)(o0_0 o0_1:Int)(o0_2:List UInt8):SegD:=⟨g9,[(4,0),(5,0)],cA 174 [1,1,1,1,1],mS [(4,LV.loc 0 0),(6,LV.int .u8 x6),(7,LV.int .i64 x7),(8,LV.int .u8 x8),(9,LV.int .i64 x9),(10,LV.str x10)] [Ob.cells [LV.int .i64 o0_0,LV.int .i64 o0_1,LV.str o0_2]]⟩
def IP (x6 x7 x8 x9:Int)(x10:List UInt8)(o0_0 o0_1:Int)(o0_2:List UInt8)(μ:Mu):=(Cy x6 x7 x8 x9 x10 o0_0 o0_1 o0_2).seg ρ μ
def iX (x5 o0_0 o0_1:Int)(o0_2:List UInt8)(μ:Mu):St:= .ret (mS [(4,LV.loc 0 0),(5,LV.int .i64 x5)] [Ob.cells [LV.int .i64 o0_0,LV.int .i64 o0_1,LV.str o0_2]]) μ
def DO (x6 x7 o0_0 o0_1:Int)(o0_2:List UInt8):SegD:=⟨g9,[(4,0),(5,0)],cA 174 [1,1,1,1,1,1],mS [(4,LV.loc 0 0),(6,LV.int .u8 x6),(7,LV.int .i64 x7)] [Ob.cells [LV.int .i64 o0_0,LV.int .i64 o0_1,LV.str o0_2]]⟩
def AJ (x6 x7 o0_0 o0_1:Int)(o0_2:List UInt8)(μ:Mu):=(DO x6 x7 o0_0 o0_1 o0_2).seg ρ μ
def kN (x5 o0_0 o0_1:Int)(o0_2:List UInt8)(μ:Mu):St:= .ret (mS [(4,LV.loc 0 0),(5,LV.int .i64 x5)] [Ob.cells [LV.int .i64 o0_0,LV.int .i64 o0_1,LV.str o0_2]]) μ
def AA (x7:Int)(x13:List UInt8)(o0_0 o0_1:Int)(o0_2:List UInt8):SegD:=⟨g9,[(4,0),(5,0)],cA 174 [1,1,1,1,1,1,1,1],mS [(4,LV.loc 0 0),(7,LV.int .i64 x7),(13,LV.str x13)] [Ob.cells [LV.int .i64 o0_0,LV.int .i64 o0_1,LV.str o0_2]]⟩
def C5 (x7:Int)(x13:List UInt8)(o0_0 o0_1:Int)(o0_2:List UInt8)(μ:Mu):=(AA x7 x13 o0_0 o0_1 o0_2).seg ρ μ
def la (x5 o0_0 o0_1:Int)(o0_2:List UInt8)(μ:Mu):St:= .ret (mS [(4,LV.loc 0 0),(5,LV.int .i64 x5)] [Ob.cells [LV.int .i64 o0_0,LV.int .i64 o0_1,LV.str o0_2]]) μ
def jq (pv:CV)(μ:Mu):St:= .panic pv (mS [] []) μ
def ku (pv:CV)(μ:Mu):St:= .panic pv (mS [] []) μ
def gw (pv:CV)(μ:Mu):St:= .panic pv (mS [] []) μ
theorem HM (x7 x13 o0_0 o0_1 o0_2 μ):(AA x7 x13 o0_0 o0_1 o0_2).sK ρ μ=
 callK (ρ.call 52 [] μ) (fun v49 μ50 =>
 opt (cM v49) fun l53=>
 callK (ρ.call 50 [LV.cv (CV.sl l53), LV.str x13] μ50) (fun v54 μ55 =>
 opt (aN v54) fun b58=>
 cond (!b58) (
 callK (ρ.call 170 [LV.int .i64 (7 : Int)] μ55) (fun v59 μ60 =>
 opt (aR v59) fun xs63=>
 opt (aM xs63) fun u64=>
 some (la x7 (2:Int) (0:Int) x13 μ60)) (pX jq)) (
 some (la x7 (2:Int) (0:Int) x13 μ55))) (pX jq)) (pX jq):=by kernel_rfl
theorem Aq (x5 o0_0 o0_1 o0_2 μ):kS ρ g9 [] [(4,0),(5,0)] (la x5 o0_0 o0_1 o0_2 μ)=
 some (kN x5 o0_0 o0_1 o0_2 μ):=by kernel_rfl
theorem yu (pv μ):kS ρ g9 [] [(4,0),(5,0)] (jq pv μ)=
 some (ku pv μ):=by kernel_rfl
theorem KG (x6 x7 o0_0 o0_1 o0_2 μ):(DO x6 x7 o0_0 o0_1 o0_2).sK ρ μ=
 opt (bd [CV.int .u8 x6]) fun s40=>
 callK (ρ.call 196 [] μ) (fun v41 μ42 =>
 opt (de v41) fun c45=>
 opt (rU (LV.cv c45) {fr:=fun _=> .cv .undef,lam:=[Ob.cells [LV.int .i64 o0_0,LV.int .i64 o0_1,LV.str o0_2]],pushed:=false} μ42) fun p46=>
 az (jb .string p46.1) (
 optE (fl p46.1 p46.2 (Value.string ⟨⟨s40⟩⟩)) (fun c47 =>
 opt (aI (LV.cv c47)) fun s48=>
 some (kN x7 (2:Int) (0:Int) s48 μ42)) (
 opt (C5 ρ x7 s40 o0_0 o0_1 o0_2 μ42) (kS ρ g9 [] [(4,0),(5,0)])))) (pX ku):=by kernel_rfl
theorem By (x5 o0_0 o0_1 o0_2 μ):kS ρ g9 [] [(4,0),(5,0)] (kN x5 o0_0 o0_1 o0_2 μ)=
 some (iX x5 o0_0 o0_1 o0_2 μ):=by kernel_rfl
theorem B0 (pv μ):kS ρ g9 [] [(4,0),(5,0)] (ku pv μ)=
 some (gw pv μ):=by kernel_rfl
theorem JW (x6 x7 x8 x9 x10 o0_0 o0_1 o0_2 μ):(Cy x6 x7 x8 x9 x10 o0_0 o0_1 o0_2).sK ρ μ=
 cond (!decide (x8 = (0 : Int))) (
 callK (ρ.call 52 [] μ) (fun v30 μ31 =>
 opt (cM v30) fun l34=>
 callK (ρ.call 50 [LV.cv (CV.sl l34), LV.str x10] μ31) (fun v35 μ36 =>
 opt (aN v35) fun b39=>
 cond (b39) (
 some (iX x9 (2:Int) (0:Int) x10 μ36)) (
 opt (AJ ρ x6 x7 o0_0 o0_1 o0_2 μ36) (kS ρ g9 [] [(4,0),(5,0)]))) (pX gw)) (pX gw)) (
 opt (AJ ρ x6 x7 o0_0 o0_1 o0_2 μ) (kS ρ g9 [] [(4,0),(5,0)])):=by kernel_rfl
theorem Bp (x5 o0_0 o0_1 o0_2 μ):kB ρ 174 g9 [] (iX x5 o0_0 o0_1 o0_2 μ)=
 some (.ret (LV.ltup [LV.cv (CV.agg [CV.int .i64 o0_0,CV.int .i64 o0_1,CV.str o0_2]),LV.int .i64 x5]) μ):=by kernel_rfl
theorem A4 (pv μ):kB ρ 174 g9 [] (gw pv μ)=
 az (below (List.length μ) pv) (some (.panic pv μ)):=by kernel_rfl
theorem Qj (al ai b μ):aG E ρ 174 [LV.cv (CV.ref al ai 0),LV.int .i64 b] μ=
 callK (ρ.call 168 [LV.cv (CV.ref al ai 0), LV.int .i64 b] μ) (fun v1 μ2 =>
 opt (aR v1) fun xs5=>
 opt (aA xs5) fun q6=>
 opt (aE .u8 q6.1) fun n7=>
 opt (aA q6.2) fun q8=>
 opt (aE .i64 q8.1) fun n9=>
 opt (aM q8.2) fun u10=>
 callK (ρ.call 168 [LV.cv (CV.ref al ai 0), LV.int .i64 n9] μ2) (fun v11 μ12 =>
 opt (aR v11) fun xs15=>
 opt (aA xs15) fun q16=>
 opt (aE .u8 q16.1) fun n17=>
 opt (aA q16.2) fun q18=>
 opt (aE .i64 q18.1) fun n19=>
 opt (aM q18.2) fun u20=>
 opt (bd [CV.int .u8 n7,CV.int .u8 n17]) fun s21=>
 callK (ρ.call 196 [] μ12) (fun v22 μ23 =>
 opt (de v22) fun c26=>
 opt (rU (LV.cv c26) {fr:=fun _=> .cv .undef,lam:=[Ob.cells [LV.int .i64 (0:Int),LV.int .i64 (0:Int),LV.str ([]:List UInt8)]],pushed:=false} μ23) fun p27=>
 az (jb .string p27.1) (
 optE (fl p27.1 p27.2 (Value.string ⟨⟨s21⟩⟩)) (fun c28 =>
 opt (aI (LV.cv c28)) fun s29=>
 some (.ret (LV.ltup [LV.cv (CV.agg [CV.int .i64 (2:Int),CV.int .i64 (0:Int),CV.str s29]),LV.int .i64 n19]) μ23)) (
 opt (IP ρ n7 n9 n17 n19 s21 (0:Int) (0:Int) ([]:List UInt8) μ23) (kB ρ 174 g9 [])))) pP) pP) pP:=by kernel_rfl
def CP (x0l x0i:Nat)(x2 x6:Int):SegD:=⟨Gb,[],cA 189 [1,0,0],mS [(0,LV.cv (CV.ref x0l x0i 0)),(2,LV.int .i64 x2),(6,LV.int .i64 x6)] []⟩
def zH (x0l x0i:Nat)(x2 x6:Int)(μ:Mu):=(CP x0l x0i x2 x6).loop ρ μ
def rh (μ:Mu):St:= .exit 0 (mS [] []) μ
theorem yq (x0l x0i x2 x6 μ):(CP x0l x0i x2 x6).rK ρ μ=
 cond (decide (x6 < x2)) (
 opt (kg E.P 38 (aZ μ x0l x0i) 3) fun r1=>
 opt (fm r1.1) fun l2=>
 az (gg 1 l2 [CV.int .i64 x6]) (
 az (bO (x0l + 1) (l2 ++ [CV.int .i64 x6])) (
 opt (bE E.P 38 (aZ (bM μ x0l x0i r1.2) x0l x0i) 3 (LV.osl (l2++[CV.int .i64 x6]))) fun o3=>
 zH ρ x0l x0i x2 (IntKind.wrap .i64 (x6+(1:Int))) (bM (bM μ x0l x0i r1.2) x0l x0i o3)))) (
 some (rh μ)):=by kernel_rfl
theorem BH (μ):kB ρ 189 Gb [.block 0] (rh μ)=
 some (.ret (LV.ltup []) μ):=by kernel_rfl
theorem Qh (al ai b c μ):aG E ρ 189 [LV.cv (CV.ref al ai 0),LV.int .i64 b,LV.int .i64 c] μ=
 opt (zH ρ al ai c b μ) (kB ρ 189 Gb [.block 0]):=by kernel_rfl
def Dd (x0l x0i:Nat)(x1:Int):SegD:=⟨Gc,[(1,0)],cA 190 [1,0,0,0],mS [(0,LV.cv (CV.ref x0l x0i 0)),(1,LV.int .i64 x1)] []⟩
def zo (x0l x0i:Nat)(x1:Int)(μ:Mu):=(Dd x0l x0i x1).loop ρ μ
def ka (x1:Int)(μ:Mu):St:= .exit 0 (mS [(1,LV.int .i64 x1)] []) μ
theorem zx (x0l x0i x1 μ):(Dd x0l x0i x1).rK ρ μ=
 opt (bv E.P 4 (aZ μ x0l x0i) 1) fun v1=>
 opt (aN v1) fun b2=>
 cond (b2) (
 opt (bv E.P 9 (aZ μ x0l x0i) 0) fun v3=>
 opt (aI v3) fun s4=>
 cond (decide (x1 < (List.length s4 : Int))) (
 opt (bv E.P 9 (aZ μ x0l x0i) 0) fun v5=>
 opt (aI v5) fun s6=>
 opt (aX s6 x1) fun y7=>
 cond (decide ((y7.toNat : Int) = (32 : Int))) (
 zo ρ x0l x0i (IntKind.wrap .i64 (x1+(1:Int))) μ) (
 some (ka x1 μ))) (
 some (ka x1 μ))) (
 some (ka x1 μ)):=by kernel_rfl
theorem Bt (x1 μ):kB ρ 190 Gc [.block 0,.seq (cA 190 [1,1])] (ka x1 μ)=
 some (.ret (LV.int .i64 x1) μ):=by kernel_rfl
theorem PZ (al ai b μ):aG E ρ 190 [LV.cv (CV.ref al ai 0),LV.int .i64 b] μ=
 opt (zo ρ al ai b μ) (kB ρ 190 Gc [.block 0,.seq (cA 190 [1,1])]):=by kernel_rfl
def CF (x0l x0i:Nat)(x4 x9:Int):SegD:=⟨kW,[(4,0),(5,0),(6,0),(7,0)],cA 191 [1,1,1,1],mS [(0,LV.cv (CV.ref x0l x0i 0)),(4,LV.int .u8 x4),(9,LV.int .i64 x9)] []⟩
def yn (x0l x0i:Nat)(x4 x9:Int)(μ:Mu):=(CF x0l x0i x4 x9).seg ρ μ
def yk (x0l x0i:Nat)(x4 x9:Int)(x10:List UInt8):SegD:=⟨kW,[(4,0),(5,0),(6,0),(7,0)],cA 191 [1,1,1,1,1,1],mS [(0,LV.cv (CV.ref x0l x0i 0)),(4,LV.int .u8 x4),(9,LV.int .i64 x9),(10,LV.str x10)] []⟩
def lz (x0l x0i:Nat)(x4 x9:Int)(x10:List UInt8)(μ:Mu):=(yk x0l x0i x4 x9 x10).seg ρ μ
def oS (x4:Int)(x5:List UInt8)(x6:Int)(x7:Bool)(μ:Mu):St:= .ret (mS [(4,LV.int .u8 x4),(5,LV.str x5),(6,LV.int .i64 x6),(7,LV.bool x7)] []) μ
def EO (pv:CV)(μ:Mu):St:= .panic pv (mS [] []) μ
def qM (x4:Int)(x5:List UInt8)(x6:Int)(x7:Bool)(μ:Mu):St:= .ret (mS [(4,LV.int .u8 x4),(5,LV.str x5),(6,LV.int .i64 x6),(7,LV.bool x7)] []) μ
def Hf (pv:CV)(μ:Mu):St:= .panic pv (mS [] []) μ
theorem HQ (x0l x0i x4 x9 x10 μ):(yk x0l x0i x4 x9 x10).sK ρ μ=
 callK (ρ.call 169 [LV.cv (CV.ref x0l x0i 0), LV.int .i64 x9, LV.cv (CV.clo 132 [])] μ) (fun v21 μ22 =>
 opt (aR v21) fun xs25=>
 opt (aA xs25) fun q26=>
 opt (aI q26.1) fun s27=>
 opt (aA q26.2) fun q28=>
 opt (aE .i64 q28.1) fun n29=>
 opt (aM q28.2) fun u30=>
 az (a6 (List.length x10 + List.length s27)) (
 some (oS x4 (x10++s27) n29 (!decide (s27=([]:List UInt8))) μ22))) (pX EO):=by kernel_rfl
theorem lS (x4 x5 x6 x7 μ):kS ρ kW [] [(4,0),(5,0),(6,0),(7,0)] (oS x4 x5 x6 x7 μ)=
 some (qM x4 x5 x6 x7 μ):=by kernel_rfl
theorem KS (x0l x0i x4 x9 μ):(CF x0l x0i x4 x9).sK ρ μ=
 callK (ρ.call 168 [LV.cv (CV.ref x0l x0i 0), LV.int .i64 x9] μ) (fun v11 μ12 =>
 opt (aR v11) fun xs15=>
 opt (aA xs15) fun q16=>
 opt (aE .u8 q16.1) fun n17=>
 opt (aA q16.2) fun q18=>
 opt (aE .i64 q18.1) fun n19=>
 opt (aM q18.2) fun u20=>
 cond (decide (n17 = (43 : Int))) (
 cond (decide (n17 = (45 : Int))) (
 opt (lz ρ x0l x0i x4 n19 ([45]:List UInt8) μ12) (kS ρ kW [] [(4,0),(5,0),(6,0),(7,0)])) (
 opt (lz ρ x0l x0i x4 n19 ([]:List UInt8) μ12) (kS ρ kW [] [(4,0),(5,0),(6,0),(7,0)]))) (
 cond (decide (n17 = (45 : Int))) (
 cond (decide (n17 = (45 : Int))) (
 opt (lz ρ x0l x0i x4 n19 ([45]:List UInt8) μ12) (kS ρ kW [] [(4,0),(5,0),(6,0),(7,0)])) (
 opt (lz ρ x0l x0i x4 n19 ([]:List UInt8) μ12) (kS ρ kW [] [(4,0),(5,0),(6,0),(7,0)]))) (
 opt (lz ρ x0l x0i x4 x9 ([]:List UInt8) μ12) (kS ρ kW [] [(4,0),(5,0),(6,0),(7,0)])))) (pX Hf):=by kernel_rfl
theorem sb (x4 x5 x6 x7 μ):kB ρ 191 kW [] (qM x4 x5 x6 x7 μ)=
 some (.ret (LV.ltup [LV.int .u8 x4,LV.str x5,LV.int .i64 x6,LV.bool x7]) μ):=by kernel_rfl
theorem PG (al ai b μ):aG E ρ 191 [LV.cv (CV.ref al ai 0),LV.int .i64 b] μ=
 callK (ρ.call 168 [LV.cv (CV.ref al ai 0), LV.int .i64 b] μ) (fun v1 μ2 =>
 opt (aR v1) fun xs5=>
 opt (aA xs5) fun q6=>
 opt (aE .u8 q6.1) fun n7=>
 opt (aA q6.2) fun q8=>
 opt (aE .i64 q8.1) fun n9=>
 opt (aM q8.2) fun u10=>
 cond (!decide (IntKind.wrap .u8 ((BitVec.ofInt (IntKind.bits .u8) n7 &&& ~~~BitVec.ofInt (IntKind.bits .u8) (32 : Int)).toNat : Int) = (69 : Int))) (
 cond (!decide (IntKind.wrap .u8 ((BitVec.ofInt (IntKind.bits .u8) n7 &&& ~~~BitVec.ofInt (IntKind.bits .u8) (32 : Int)).toNat : Int) = (68 : Int))) (
 some (.ret (LV.ltup [LV.int .u8 (0:Int),LV.str ([]:List UInt8),LV.int .i64 b,LV.bool false]) μ2)) (
 opt (yn ρ al ai (IntKind.wrap .u8 ((BitVec.ofInt (IntKind.bits .u8) n7 &&& ~~~BitVec.ofInt (IntKind.bits .u8) (32:Int)).toNat:Int)) n9 μ2) (kB ρ 191 kW []))) (
 opt (yn ρ al ai (IntKind.wrap .u8 ((BitVec.ofInt (IntKind.bits .u8) n7 &&& ~~~BitVec.ofInt (IntKind.bits .u8) (32:Int)).toNat:Int)) n9 μ2) (kB ρ 191 kW []))) pP:=by kernel_rfl
theorem PL (a μ):aG E ρ 192 [LV.str a] μ=
 callK (ρ.call 45 [LV.str a] μ) (fun v1 μ2 =>
 opt (aR v1) fun xs5=>
 opt (aA xs5) fun q6=>
 opt (aE .i64 q6.1) fun n7=>
 opt (aA q6.2) fun q8=>
 opt (de q8.1) fun c9=>
 opt (aM q8.2) fun u10=>
 cond (decide ((10 : Int) < (List.length a : Int))) (
 callK (ρ.call 170 [LV.int .i64 (28 : Int)] μ2) (fun v11 μ12 =>
 opt (aR v11) fun xs15=>
 opt (aM xs15) fun u16=>
 callK (ρ.call 66 [LV.int .i64 n7] μ12) (fun v17 μ18 =>
 opt (aI v17) fun s21=>
 some (.ret (LV.cv (CV.agg [CV.int .i64 (1:Int),CV.int .i64 (0:Int),CV.str s21])) μ18)) pP) pP) (
 opt (xF (LV.cv c9)) fun b22=>
 cond (!b22) (
 callK (ρ.call 170 [LV.int .i64 (28 : Int)] μ2) (fun v23 μ24 =>
 opt (aR v23) fun xs27=>
 opt (aM xs27) fun u28=>
 callK (ρ.call 66 [LV.int .i64 n7] μ24) (fun v29 μ30 =>
 opt (aI v29) fun s33=>
 some (.ret (LV.cv (CV.agg [CV.int .i64 (1:Int),CV.int .i64 (0:Int),CV.str s33])) μ30)) pP) pP) (
 cond (decide ((2147483647 : Int) < n7)) (
 callK (ρ.call 170 [LV.int .i64 (28 : Int)] μ2) (fun v34 μ35 =>
 opt (aR v34) fun xs38=>
 opt (aM xs38) fun u39=>
 callK (ρ.call 66 [LV.int .i64 n7] μ35) (fun v40 μ41 =>
 opt (aI v40) fun s44=>
 some (.ret (LV.cv (CV.agg [CV.int .i64 (1:Int),CV.int .i64 (0:Int),CV.str s44])) μ41)) pP) pP) (
 callK (ρ.call 66 [LV.int .i64 n7] μ2) (fun v45 μ46 =>
 opt (aI v45) fun s49=>
 some (.ret (LV.cv (CV.agg [CV.int .i64 (1:Int),CV.int .i64 (0:Int),CV.str s49])) μ46)) pP)))) pP:=by kernel_rfl
theorem Qi (a b μ):aG E ρ 193 [LV.str a,LV.str b] μ=
 callK (ρ.call 62 [LV.str a, LV.str ([48] : List UInt8)] μ) (fun v1 μ2 =>
 opt (aI v1) fun s5=>
 callK (ρ.call 63 [LV.str b, LV.str ([48] : List UInt8)] μ2) (fun v6 μ7 =>
 opt (aI v6) fun s10=>
 some (.ret (LV.int .i64 (IntKind.wrap .i64 ((List.length s5:Int)+(List.length s10:Int)))) μ7)) pP) pP:=by kernel_rfl
theorem P3 (μ):aG E ρ 196 [] μ=
 some (.ret (LV.cv (CV.mview [Value.string ⟨⟨([60,61]:List UInt8)⟩⟩,Value.string ⟨⟨([62,61]:List UInt8)⟩⟩,Value.string ⟨⟨([61,61]:List UInt8)⟩⟩,Value.string ⟨⟨([47,61]:List UInt8)⟩⟩,Value.string ⟨⟨([60]:List UInt8)⟩⟩,Value.string ⟨⟨([62]:List UInt8)⟩⟩] [CV.str ([46,76,69,46]:List UInt8),CV.str ([46,71,69,46]:List UInt8),CV.str ([46,69,81,46]:List UInt8),CV.str ([46,78,69,46]:List UInt8),CV.str ([46,76,84,46]:List UInt8),CV.str ([46,71,84,46]:List UInt8)])) μ):=by kernel_rfl
end
end Go.Abs
set_option linter.unusedVariables false
set_option linter.unusedSimpArgs false
set_option maxRecDepth 100000
namespace Go.Abs
open Go Go.Proofs
def Sc (μ:Mu)(l i:Nat)(s:List UInt8)(fx:Bool)(r:List LV):Prop:=aZ μ l i= .cells (LV.str s::LV.bool fx::r)
def ba:List UInt8→Nat
 |[]=>0
 |c::r=>if c=32 then ba r+1 else 0
def skipN (fx:Bool)(s:List UInt8)(n:Nat):Nat:=if fx then n+ba (s.drop n)else n
section
variable {μ:Mu}{l i:Nat}{s:List UInt8}{fx:Bool}{r:List LV}
theorem Np (h:Sc μ l i s fx r)(hs:s.length≤1000000): ∀(k n:Nat),n+k=s.length→zo (ev E) l i (n:Int) μ=some (ka (skipN fx s n:Nat) μ):=by
 intro k
 induction k with
 |zero=>
  intro n hk
  refine bb ?_
  rw[zx,h]
  simp only[tH,pc,aa,ae,eH,cL,ah]
  have:List.drop n s=[]:=List.drop_eq_nil_of_le (by omega)
  have h1:decide ((n:Int)<(s.length:Int))=false:=by simp;omega
  rw[h1]
  cases fx<;>simp[skipN,ba,this]
 |succ k ih=>
  intro n hk
  refine bb ?_
  rw[zx,h]
  simp only[tH,pc,aa,ae,eH,cL,ah]
  have h1:decide ((n:Int)<(s.length:Int))=true:=by simp;omega
  have hn:n<s.length:=by omega
  rw[h1,gu,List.getElem?_eq_getElem hn,aa]
  have hd:List.drop n s=s[n]::List.drop (n+1) s:=List.drop_eq_getElem_cons hn
  have e:IntKind.wrap .i64 ((n:Int)+1)=((n+1:Nat):Int):=by rw[bc (by omega) (by omega)];omega
  rw[e,ih (n+1) (by omega)]
  cases fx
  ·simp[skipN]
  ·simp only[cond_true,skipN,if_true,hd,ba]
   by_cases hc:s[n]=32
   ·have:decide (((s[n]).toNat:Int)=32)=true:=by rw[hc];decide
    rw[this]
    simp only[cond_true,hc,if_true]
    congr 3
    omega
   ·have:decide (((s[n]).toNat:Int)=32)=false:=by
     simp only[decide_eq_false_iff_not]
     intro h2
     apply hc
     apply UInt8.toNat.inj
     have:(s[n]).toNat=32:=by omega
     rw[this];rfl
    rw[this]
    simp[hc]
theorem Of (h:Sc μ l i s fx r)(hs:s.length≤1000000){n:Nat}(hn:n≤s.length):(ev E).call 190 [LV.cv (CV.ref l i 0),LV.int .i64 (n:Int)] μ=some (.ret (LV.int .i64 (skipN fx s n:Nat)) μ):=by
 refine aK ?_
 rw[PZ,Np h hs (s.length-n) n (by omega),aa,Bt]
theorem mY: ∀(l:List UInt8),ba l≤l.length
 |[]=>Nat.le_refl _
 |c::r=>by
  unfold ba
  have:=mY r
  split<;>simp<;>omega
theorem yb {n:Nat}(hn:n≤s.length):skipN fx s n≤s.length:=by
 unfold skipN
 have:=mY (s.drop n)
 rw[List.length_drop]at this
 split<;>omega
theorem yA {n:Nat}:n≤skipN fx s n:=by
 unfold skipN
 split<;>omega
def atC (fx:Bool)(s:List UInt8)(n:Nat):UInt8:=(s[skipN fx s n]?).getD 0
def atE (fx:Bool)(s:List UInt8)(n:Nat):Nat:=if skipN fx s n<s.length then skipN fx s n+1 else skipN fx s n
theorem gF (h:Sc μ l i s fx r)(hs:s.length≤1000000){n:Nat}(hn:n≤s.length):
  (ev E).call 168 [LV.cv (CV.ref l i 0),LV.int .i64 (n:Int)] μ=some (.ret (.ltup [LV.int .u8 ((atC fx s n).toNat:Int),LV.int .i64 (atE fx s n:Nat)]) μ):=by
 refine aK ?_
 rw[Qb,Of h hs hn,ad,am,aa,h,eH,cL,aa,ah,aa]
 have hle:=yb (fx:=fx) hn
 by_cases hlt:skipN fx s n<s.length
 ·have h1:decide ((s.length:Int)≤(skipN fx s n:Int))=false:=by simp;omega
  rw[h1,cond_false]
  have h2:Ha (ev E) l i (skipN fx s n:Nat) μ=some (qp ((atC fx s n).toNat:Int) (atE fx s n:Nat) μ):=by
   refine aO ?_
   rw[LM,h,eH,cL,aa,ah,aa,gu,List.getElem?_eq_getElem hlt,aa]
   simp only[atC,atE,hlt,if_true,List.getElem?_eq_getElem,Option.getD_some]
   rw[bc (by omega) (by omega)]
   rfl
  rw[h2,aa,A3]
 ·have h1:decide ((s.length:Int)≤(skipN fx s n:Int))=true:=by simp;omega
  rw[h1,cond_true]
  have:s[skipN fx s n]? =none:=List.getElem?_eq_none (by omega)
  simp only[atC,atE,hlt,if_false,this,Option.getD_none]
  rfl
def eu (fx:Bool)(p:UInt8→Bool):List UInt8→Nat→List UInt8×Nat
 |[],_=>([],0)
 |c::r,k=>if fx&&c == 32 then eu fx p r (k+1)else if c != 0&&p c then(c::(eu fx p r 0).1,k+1+(eu fx p r 0).2)else([],0)
def cl (fx:Bool)(p:UInt8→Bool)(s:List UInt8)(n:Nat):List UInt8:=(eu fx p (s.drop n) 0).1
def runE (fx:Bool)(p:UInt8→Bool)(s:List UInt8)(n:Nat):Nat:=n+(eu fx p (s.drop n) 0).2
theorem r5 {p:UInt8→Bool}: ∀(l:List UInt8) (k:Nat),eu true p l k=eu true p (l.drop (ba l)) (k+ba l)
 |[],k=>rfl
 |c::r,k=>by
  by_cases hc:c=32
  ·have e1:eu true p (c::r) k=eu true p r (k+1):=by simp[eu,hc]
   have e2:ba (c::r)=ba r+1:=by simp[ba,hc]
   rw[e1,e2,r5 r (k+1)]
   simp only[List.drop_succ_cons]
   congr 1
   omega
  ·have e2:ba (c::r)=0:=by simp[ba,hc]
   rw[e2];rfl
theorem m8: ∀(l:List UInt8) (c:UInt8) (r:List UInt8),l.drop (ba l)=c::r→c≠32
 |[],c,r,h=>by simp[ba]at h
 |d::t,c,r,h=>by
  by_cases hd:d=32
  ·have e2:ba (d::t)=ba t+1:=by simp[ba,hd]
   rw[e2,List.drop_succ_cons]at h
   exact m8 t c r h
  ·have e2:ba (d::t)=0:=by simp[ba,hd]
   rw[e2]at h
   simp only[List.drop_zero,List.cons.injEq]at h
   rw[←h.1];exact hd
theorem yQ {p:UInt8→Bool}{n:Nat}:(cl fx p s n,runE fx p s n)=if atC fx s n != 0&&p (atC fx s n)then(atC fx s n::cl fx p s (atE fx s n),runE fx p s (atE fx s n))else([],n):=by
 have key: ∀m k,skipN fx s n=m→m=n+k→eu fx p (s.drop n) 0=eu fx p (s.drop m) k→(∀c t,s.drop m=c::t→(fx&&c == 32)=false)→
   (cl fx p s n,runE fx p s n)=if atC fx s n != 0&&p (atC fx s n)then(atC fx s n::cl fx p s (atE fx s n),runE fx p s (atE fx s n))else([],n):=by
  intro m k hm hk hrun hc
  simp only[cl,runE,atC,atE,hm]
  rw[hrun]
  by_cases hlt:m<s.length
  ·have hd:s.drop m=s[m]::s.drop (m+1):=List.drop_eq_getElem_cons hlt
   have hc':=hc _ _ hd
   rw[hd]
   simp only[eu,hc',Bool.false_eq_true,if_false,List.getElem?_eq_getElem hlt,Option.getD_some,hlt,if_true]
   split
   ·simp only[Prod.mk.injEq,true_and];omega
   ·rfl
  ·have hd:s.drop m=[]:=List.drop_eq_nil_of_le (by omega)
   rw[hd]
   simp[eu,List.getElem?_eq_none (by omega:s.length≤m)]
 cases fx with
 |false=>exact key n 0 rfl rfl rfl fun c t _=>rfl
 |true=>
  refine key (n+ba (s.drop n)) (ba (s.drop n)) (by simp[skipN]) rfl ?_ fun c t h=> ?_
  ·rw[r5,List.drop_drop,Nat.zero_add]
  ·have:=m8 (s.drop n) c t (by rw[List.drop_drop];exact h)
   simp[this]
theorem wT {p:UInt8→Bool}{n:Nat}(h:(atC fx s n != 0&&p (atC fx s n))=true):cl fx p s n=atC fx s n::cl fx p s (atE fx s n)∧runE fx p s n=runE fx p s (atE fx s n):=by
 have:=yQ (fx:=fx) (s:=s) (p:=p) (n:=n)
 rw[h,if_pos rfl,Prod.mk.injEq]at this
 exact this
theorem o5 {p:UInt8→Bool}{n:Nat}(h:(atC fx s n != 0&&p (atC fx s n))=false):cl fx p s n=[]∧runE fx p s n=n:=by
 have:=yQ (fx:=fx) (s:=s) (p:=p) (n:=n)
 rw[h,if_neg (by simp),Prod.mk.injEq]at this
 exact this
theorem Jf {n:Nat}(h:atC fx s n≠0):n<atE fx s n∧atE fx s n≤s.length:=by
 have h1:=yA (fx:=fx) (s:=s) (n:=n)
 by_cases hlt:skipN fx s n<s.length
 ·simp only[atE,hlt,if_true];omega
 ·exfalso
  apply h
  simp only[atC,List.getElem?_eq_none (by omega:s.length≤skipN fx s n),Option.getD_none]
theorem fU {n:Nat}(hn:n≤s.length):atE fx s n≤s.length:=by
 have:=yb (fx:=fx) hn
 unfold atE
 split<;>omega
theorem m5 {c:UInt8}:decide ((c.toNat:Int)=0)= !(c != 0):=by
 by_cases h:c=0
 ·subst h;rfl
 ·have:c.toNat≠0:=fun h2=>h (UInt8.toNat.inj h2)
  have h1:(c != 0)=true:=by simpa using h
  rw[h1]
  simp only[Bool.not_true,decide_eq_false_iff_not]
  omega
theorem NR (h:Sc μ l i s fx r)(hs:s.length≤1000000){f:FuncId}{p:UInt8→Bool}(hp: ∀c:UInt8,(ev E).call f [LV.int .u8 (c.toNat:Int)] μ=some (.ret (LV.bool (p c)) μ)):
  ∀(k n:Nat) (acc:List UInt8),s.length-n≤k→n≤s.length→acc.length+(s.length-n)≤1000000→yc (ev E) l i (n:Int) f (bh acc) μ=some (mI (acc++cl fx p s n) (runE fx p s n:Nat) μ):=by
 intro k
 induction k with
 |zero=>
  intro n acc hk hn ha
  refine bb ?_
  rw[Af,gF h hs hn]
  simp only[ad,ao,aa,aj,am,ak]
  have h0:atC fx s n=0:=by
   by_cases h0:atC fx s n=0
   ·exact h0
   ·have:=Jf h0;omega
  obtain⟨h1,h2⟩:=o5 (fx:=fx) (s:=s) (p:=p) (n:=n) (by rw[h0];rfl)
  rw[h0,h1,h2]
  simp only[m5,cJ,aa,List.append_nil]
  rfl
 |succ k ih=>
  intro n acc hk hn ha
  refine bb ?_
  rw[Af,gF h hs hn]
  simp only[ad,ao,aa,aj,am,ak,m5]
  by_cases h0:atC fx s n=0
  ·obtain⟨h1,h2⟩:=o5 (fx:=fx) (s:=s) (p:=p) (n:=n) (by rw[h0];rfl)
   rw[h0,h1,h2]
   simp only[cJ,aa,List.append_nil]
   rfl
  ·have h3:(atC fx s n != 0)=true:=by simp[h0]
   rw[h3,Bool.not_true,cond_false,hp,ad,ae,aa]
   cases hpc:p (atC fx s n)with
   |false=>
    obtain⟨h1,h2⟩:=o5 (fx:=fx) (s:=s) (p:=p) (n:=n) (by rw[hpc];simp)
    rw[h1,h2]
    simp only[Bool.not_false,cond_true,cJ,aa,List.append_nil]
   |true=>
    obtain⟨h1,h2⟩:=wT (fx:=fx) (s:=s) (p:=p) (n:=n) (by rw[hpc,h3];rfl)
    obtain⟨h4,h5⟩:=Jf h0
    have h6:IX (ev E) l i f (bh acc) ((atC fx s n).toNat:Int) (atE fx s n:Nat) μ=some (ra l i (atE fx s n:Nat) f (bh (acc++[atC fx s n])) μ):=by
     refine aO ?_
     have e:[CV.int .u8 ((atC fx s n).toNat:Int)]=bh [atC fx s n]:=rfl
     rw[Lo,e,Bf (by simp;omega),aw,B8]
    simp only[Bool.not_true,cond_false,h6,aa,BC]
    rw[ih (atE fx s n) (acc++[atC fx s n]) (by omega) h5 (by simp;omega),h1,h2]
    simp
theorem nk (h:Sc μ l i s fx r)(hs:s.length≤1000000){f:FuncId}{p:UInt8→Bool}(hp: ∀c:UInt8,(ev E).call f [LV.int .u8 (c.toNat:Int)] μ=some (.ret (LV.bool (p c)) μ)){n:Nat}(hn:n≤s.length):
  (ev E).call 169 [LV.cv (CV.ref l i 0),LV.int .i64 (n:Int),LV.cv (CV.clo f [])] μ=some (.ret (.ltup [LV.str (cl fx p s n),LV.int .i64 (runE fx p s n:Nat)]) μ):=by
 refine aK ?_
 have:=NR h hs hp (s.length-n) n [] (Nat.le_refl _) hn (by simp;omega)
 have e:bh []=[]:=rfl
 rw[e,List.nil_append]at this
 rw[PX,this,aa,BM]
end
end Go.Abs
namespace Go.Abs
def bg (c:UInt8):Bool:=(decide (97≤c.toNat)&&decide (c.toNat≤122))||(decide (65≤c.toNat)&&decide (c.toNat≤90))
def ay (c:UInt8):Bool:=decide (48≤c.toNat)&&decide (c.toNat≤57)
def bI (c:UInt8):Bool:=bg c||ay c||decide (c.toNat=95)
end Go.Abs
set_option linter.unusedVariables false
set_option linter.unusedSimpArgs false
set_option maxRecDepth 100000
namespace Go.Abs
open Go Go.Proofs
section
variable {μ:Mu}
theorem dI (a b:Nat):decide ((a:Int)≤(b:Int))=decide (a≤b):=by simp
theorem Gy {c:UInt8}:(ev E).call 90 [LV.int .u8 (c.toNat:Int)] μ=some (.ret (LV.bool (bg c)) μ):=by
 refine aK ?_
 rw[Q9]
 have e1:decide ((97:Int)≤(c.toNat:Int))=decide (97≤c.toNat):=dI 97 _
 have e2:decide ((c.toNat:Int)≤122)=decide (c.toNat≤122):=dI _ 122
 have e3:decide ((65:Int)≤(c.toNat:Int))=decide (65≤c.toNat):=dI 65 _
 have e4:decide ((c.toNat:Int)≤90)=decide (c.toNat≤90):=dI _ 90
 rw[e1,e2,e3,e4]
 unfold bg
 cases decide (97≤c.toNat)<;>cases decide (c.toNat≤122)<;>cases decide (65≤c.toNat)<;>rfl
theorem kH {c:UInt8}:(ev E).call 132 [LV.int .u8 (c.toNat:Int)] μ=some (.ret (LV.bool (ay c)) μ):=by
 refine aK ?_
 rw[Qf]
 have e1:decide ((48:Int)≤(c.toNat:Int))=decide (48≤c.toNat):=dI 48 _
 have e2:decide ((c.toNat:Int)≤57)=decide (c.toNat≤57):=dI _ 57
 rw[e1,e2]
 unfold ay
 cases decide (48≤c.toNat)<;>rfl
theorem Pq {c:UInt8}:(ev E).call 93 [LV.int .u8 (c.toNat:Int)] μ=some (.ret (LV.bool (bI c)) μ):=by
 refine aK ?_
 rw[QL,Gy]
 simp only[ad,ao,aa,aj,am,ah,ae,ak,aw,cond_true,cond_false,Bool.not_true,Bool.not_false,ar,au,aq]
 unfold bI
 cases bg c
 ·simp only[ad,ao,aa,aj,am,ah,ae,ak,aw,cond_true,cond_false,Bool.not_true,Bool.not_false,ar,au,aq,kH]
  cases ay c
  ·simp only[ad,ao,aa,aj,am,ah,ae,ak,aw,cond_true,cond_false,Bool.not_true,Bool.not_false,ar,au,aq,Bool.false_or]
   have:decide ((c.toNat:Int)=95)=decide (c.toNat=95):=by simp;omega
   rw[this]
  ·rfl
 ·rfl
def ph (x:List UInt8):List (List UInt8)→Nat→Int
 |[],_=> -1
 |a::r,j=>if x=a then(j:Int)else ph x r (j+1)
theorem tC (x:List UInt8): ∀(l:List (List UInt8)) (j:Nat),decide (0≤ph x l j)=l.contains x
 |[],j=>rfl
 |a::r,j=>by
  unfold ph
  by_cases h:x=a
  ·simp[h]
  ·have h1:(x == a)=false:=by simp[h]
   rw[if_neg h,tC x r (j+1),List.contains_cons,h1,Bool.false_or]
noncomputable def Ev (n:Int)(μ:Mu):St:=if n= -1 then tq μ else sS n μ
theorem Oc {l:List (List UInt8)}{x:List UInt8}(hl:l.length≤1000000): ∀(k j:Nat),j+k=l.length→
  Gm (ev E) (bA l) x (l.length:Int) (j:Int) μ=some (Ev (ph x (l.drop j) j) μ):=by
 intro k
 induction k with
 |zero=>
  intro j hj
  refine bb ?_
  rw[Da]
  have:List.drop j l=[]:=List.drop_eq_nil_of_le (by omega)
  have h1:decide ((j:Int)<(l.length:Int))=false:=by simp;omega
  rw[h1,this]
  rfl
 |succ k ih=>
  intro j hj
  refine bb ?_
  rw[Da]
  have hlt:j<l.length:=by omega
  have h1:decide ((j:Int)<(l.length:Int))=true:=by simp;omega
  have hd:List.drop j l=l[j]::List.drop (j+1) l:=List.drop_eq_getElem_cons hlt
  have hg:(bA l)[j]? =some (CV.str l[j]):=by simp[bA,hlt]
  have e:IntKind.wrap .i64 ((j:Int)+1)=((j+1:Nat):Int):=by rw[bc (by omega) (by omega)];omega
  rw[h1,iC,hg,hd,e]
  simp only[ad,ao,aa,aj,am,ah,ae,ak,aw,cond_true,cond_false,Bool.not_true,Bool.not_false,ar,au,aq,iS,ph]
  by_cases h:x=l[j]
  ·rw[if_pos h]
   have:decide (x=l[j])=true:=by simp[h]
   rw[this,cond_true,Ev,if_neg (by omega)]
  ·rw[if_neg h]
   have:decide (x=l[j])=false:=by simp[h]
   rw[this,cond_false,ih (j+1) (by omega)]
theorem HO {l:List (List UInt8)}{x:List UInt8}(hl:l.length≤1000000):aG E (ev E) 94 [LV.cv (CV.sl (bA l)),LV.str x] μ=some (.ret (LV.int .i64 (ph x l 0)) μ):=by
  have e:(bA l).length=l.length:=by simp[bA]
  have:=Oc (μ:=μ) (l:=l) (x:=x) hl l.length 0 (by omega)
  rw[List.drop_zero]at this
  rw[Ra,e]
  have e0:((0:Nat):Int)=(0:Int):=rfl
  rw[←e0,this,aa,Ev]
  by_cases h:ph x l 0= -1
  ·rw[if_pos h,Fo,h]
  ·rw[if_neg h,FG]
theorem P8 {l:List (List UInt8)}{x:List UInt8}(hl:l.length≤1000000):(ev E).call 94 [LV.cv (CV.sl (bA l)),LV.str x] μ=some (.ret (LV.int .i64 (ph x l 0)) μ):=aK (HO hl)
theorem FC {l:List (List UInt8)}{x:List UInt8}(hl:l.length≤1000000):(ev E).call 50 [LV.cv (CV.sl (bA l)),LV.str x] μ=some (.ret (LV.bool (l.contains x)) μ):=by
 refine aK ?_
 rw[QA,P8 hl]
 simp only[ad,ao,aa,aj,am,ah,ae,ak,aw,cond_true,cond_false,Bool.not_true,Bool.not_false,ar,au,aq]
 rw[tC]
end
end Go.Abs
set_option linter.unusedVariables false
set_option linter.unusedSimpArgs false
set_option maxRecDepth 100000
namespace Go.Abs
open Go Go.Proofs
def upB (c:UInt8):UInt8:=if 97≤c.toNat∧c.toNat≤122 then c-32 else c
theorem NX: ∀i:Fin 128,(if 0≤Lib.toUpperU (i.val:Int)then Lib.encodeRune (Lib.toUpperU (i.val:Int))else [])=[upB (UInt8.ofNat i.val)]:=by decide
theorem mc: ∀(l:List UInt8),(∀b∈l,b.toNat<128)→Lib.toUpperD l=l.map upB
 |[],_=>rfl
 |b::t,ha=>by
  have hb:=ha b List.mem_cons_self
  have ih:=mc t (fun x hx=>ha x (List.mem_cons_of_mem _ hx))
  have h1:=NX ⟨b.toNat,hb⟩
  simp only at h1
  unfold Lib.toUpperD at ih ⊢
  rw[Lib.mapD_step Lib.toUpperU (b::t) (by simp),Lib.decodeL_ascii b t hb]
  dsimp only
  rw[h1,List.drop_succ_cons,List.drop_zero,ih]
  simp
theorem tX {fx:Bool}{p:UInt8→Bool}: ∀(l:List UInt8) (k:Nat),∀b∈(eu fx p l k).1,p b=true
 |[],k,b,hb=>by simp[eu]at hb
 |c::r,k,b,hb=>by
  unfold eu at hb
  split at hb
  ·exact tX r (k+1) b hb
  ·split at hb
   ·rename_i h
    simp only[List.mem_cons]at hb
    rcases hb with rfl|hb
    ·simp only[Bool.and_eq_true]at h;exact h.2
    ·exact tX r 0 b hb
   ·simp at hb
theorem iD {fx:Bool}{p:UInt8→Bool}{s:List UInt8}{n:Nat}: ∀b∈cl fx p s n,p b=true:=tX _ _
end Go.Abs
set_option linter.unusedVariables false
set_option linter.unusedSimpArgs false
set_option maxRecDepth 100000
namespace Go.Abs
open Go Go.Proofs
def dn:List (List UInt8):=[[46,76,84,46],[46,76,69,46],[46,69,81,46],[46,78,69,46],[46,71,69,46],[46,71,84,46],[46,78,79,84,46],[46,65,78,68,46],[46,79,82,46],[46,69,81,86,46],[46,78,69,81,86,46]]
def bW:List (List UInt8):=[[42,42],[47,47],[61,62],[42],[47],[43],[45],[40],[41],[44],[58],[61],[37]]
def eK:List UInt8:=[46,84,82,85,69,46]
def d5:List UInt8:=[46,70,65,76,83,69,46]
abbrev up (s:List UInt8):List UInt8:=Lib.toUpperD s
theorem rD {fx:Bool}{p:UInt8→Bool}: ∀(l:List UInt8) (k:Nat),(eu fx p l k).1.length≤l.length∧(eu fx p l k).2≤k+l.length
 |[],k=>⟨Nat.le_refl _,by simp[eu]⟩
 |c::r,k=>by
  unfold eu
  have h1:=rD (fx:=fx) (p:=p) r (k+1)
  have h2:=rD (fx:=fx) (p:=p) r 0
  split
  ·simp only[List.length_cons];omega
  ·split
   ·simp only[List.length_cons];omega
   ·simp
section
variable {μ:Mu}{l i:Nat}{s:List UInt8}{fx:Bool}{r:List LV}
theorem gX {p:UInt8→Bool}{n:Nat}(hn:n≤s.length):runE fx p s n≤s.length:=by
 have:=(rD (fx:=fx) (p:=p) (s.drop n) 0).2
 rw[List.length_drop]at this
 unfold runE
 omega
theorem iF {p:UInt8→Bool}{n:Nat}:(cl fx p s n).length≤s.length:=by
 have:=(rD (fx:=fx) (p:=p) (s.drop n) 0).1
 rw[List.length_drop]at this
 unfold cl
 omega
theorem j4 {c:UInt8}(h:bg c=true):c.toNat<128:=by
 simp only[bg,Bool.or_eq_true,Bool.and_eq_true,decide_eq_true_eq]at h
 omega
theorem OT {n:Nat}:Lib.toUpperD (cl fx bg s n)=(cl fx bg s n).map upB:=mc _ fun b hb=>j4 (iD b hb)
theorem Qd:(ev E).call 51 [] μ=some (.ret (LV.osl (bA dn)) μ):=aK (by rw[QX];rfl)
theorem Mi:(ev E).call 52 [] μ=some (.ret (LV.osl (bA bW)) μ):=aK (by rw[QY];rfl)
def c8 (fx:Bool)(s:List UInt8)(n:Nat):List UInt8:=[46]++up (cl fx bg s (atE fx s n))++[46]
def dotEnd (fx:Bool)(s:List UInt8)(n:Nat):Nat:=atE fx s (runE fx bg s (atE fx s n))
def k9 (fx:Bool)(s:List UInt8)(n:Nat):Bool:=decide (atC fx s (runE fx bg s (atE fx s n))=46)&&(dn.contains (c8 fx s n)||decide (c8 fx s n=eK)||decide (c8 fx s n=d5))
def ck (fx:Bool)(s:List UInt8)(n:Nat):List UInt8×Nat×Bool:=if atC fx s n=46 then(c8 fx s n,dotEnd fx s n,k9 fx s n)else([],n,false)
theorem bG {c:UInt8}{k:Nat}(hk:k<256):decide ((c.toNat:Int)=(k:Int))=decide (c=UInt8.ofNat k):=by
 have h2:(UInt8.ofNat k).toNat=k:=by simp[hk]
 by_cases h:c=UInt8.ofNat k
 ·subst h
  rw[h2];simp
 ·have h1:c.toNat≠k:=fun e=>h (UInt8.toNat.inj (by rw[e,h2]))
  simp only[h,decide_false,decide_eq_false_iff_not]
  omega
theorem GY (h:Sc μ l i s fx r)(hs:s.length≤200000){n:Nat}(hn:n≤s.length):
  (ev E).call 172 [LV.cv (CV.ref l i 0),LV.int .i64 (n:Int)] μ=some (.ret (.ltup [LV.str (ck fx s n).1,LV.int .i64 ((ck fx s n).2.1:Nat),LV.bool (ck fx s n).2.2]) μ):=by
 refine aK ?_
 rw[PC,gF h (by omega) hn]
 have e46: ∀c:UInt8,decide ((c.toNat:Int)=46)=decide (c=46):=fun c=>bG (k:=46) (by omega)
 simp only[ad,ao,aa,aj,am,ah,ae,ak,aw,cond_true,cond_false,Bool.not_true,Bool.not_false,ar,au,aq,e46]
 by_cases hc:atC fx s n=46
 ·have hle:=fU (fx:=fx) hn
  have hle2:=gX (fx:=fx) (p:=bg) hle
  have hr:=iF (fx:=fx) (s:=s) (p:=bg) (n:=atE fx s n)
  have hu:(Lib.toUpperD (cl fx bg s (atE fx s n))).length≤s.length:=by rw[OT,List.length_map];exact hr
  have hG:HS (ev E) l i (atE fx s n:Nat) μ=some (fC (c8 fx s n) (dotEnd fx s n:Nat) (k9 fx s n) μ):=by
   refine aO ?_
   rw[Kv,nk h (by omega) (fun c=>Gy) hle]
   simp only[ad,ao,aa,aj,am,ah,ae,ak,aw,cond_true,cond_false,Bool.not_true,Bool.not_false,ar,au,aq]
   rw[gF h (by omega) hle2]
   simp only[ad,ao,aa,aj,am,ah,ae,ak,aw,cond_true,cond_false,Bool.not_true,Bool.not_false,ar,au,aq]
   rw[LW (by omega)]
   simp only[ad,ao,aa,aj,am,ah,ae,ak,aw,cond_true,cond_false,Bool.not_true,Bool.not_false,ar,au,aq]
   rw[bj (by simp;omega),bj (by simp;omega)]
   simp only[ad,ao,aa,aj,am,ah,ae,ak,aw,cond_true,cond_false,Bool.not_true,Bool.not_false,ar,au,aq,Qd]
   rw[FC (l:=dn) (by decide)]
   simp only[ad,ao,aa,aj,am,ah,ae,ak,aw,cond_true,cond_false,Bool.not_true,Bool.not_false,ar,au,aq,e46]
   have ht:[46]++Lib.toUpperD (cl fx bg s (atE fx s n))++[46]=c8 fx s n:=rfl
   have h3:([46,84,82,85,69,46]:List UInt8)=eK:=rfl
   have h4:([46,70,65,76,83,69,46]:List UInt8)=d5:=rfl
   rw[ht,h3,h4]
   unfold k9
   have he:atE fx s (runE fx bg s (atE fx s n))=dotEnd fx s n:=rfl
   rw[he]
   cases dn.contains (c8 fx s n)<;>cases decide (c8 fx s n=eK)<;>cases decide (atC fx s (runE fx bg s (atE fx s n))=46)<;>simp
  rw[hG]
  simp only[hc,decide_true,ad,ao,aa,aj,am,ah,ae,ak,aw,cond_true,cond_false,Bool.not_true,Bool.not_false,ar,au,aq,B4,ck,if_true]
 ·simp only[hc,decide_false,ad,ao,aa,aj,am,ah,ae,ak,aw,cond_true,cond_false,Bool.not_true,Bool.not_false,ar,au,aq,ck,if_false]
end
end Go.Abs
