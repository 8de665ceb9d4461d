/-
  The statement TokensJoinsCardSaid, proved; part 5 of 8 of its proof.
  Normal forms. Printed by a program.
  What the scanner's small functions answer.
  Classes of characters.
-/
import Derived.Test.YtfcjjankfjaapaaGreatDoorJ3
import Derived.Test.YtfcjjankfjaapaaGreatDoorJ2
set_option linter.all false
set_option linter.unusedSectionVars false
set_option linter.unusedVariables false
set_option maxRecDepth 1000000
namespace Go.Abs
open Go Go.Proofs
noncomputable section
variable (ρ:Rho)
def Py (x0:List CV):SegD:=⟨H9,[(2,0)],cA 9 [1,1],mS [(0,LV.cv (CV.sl x0))] []⟩
def RD (x0:List CV)(μ:Mu):=(Py x0).seg ρ μ
def tr (x2:Bool)(μ:Mu):St:= .ret (mS [(2,LV.bool x2)] []) μ
def Pz (x0:List CV):SegD:=⟨H9,[(2,0)],cA 9 [1,1,1],mS [(0,LV.cv (CV.sl x0))] []⟩
def RE (x0:List CV)(μ:Mu):=(Pz x0).seg ρ μ
def jt (x2:Bool)(μ:Mu):St:= .ret (mS [(2,LV.bool x2)] []) μ
def KP (x0:List CV)(x3:List UInt8)(x4 x5 x6:Int):SegD:=⟨H9,[(2,0)],cA 9 [1,1,1,1,1,1],mS [(0,LV.cv (CV.sl x0)),(3,LV.str x3),(4,LV.int .i64 x4),(5,LV.int .i64 x5),(6,LV.int .i64 x6)] []⟩
def Pr (x0:List CV)(x3:List UInt8)(x4 x5 x6:Int)(μ:Mu):=(KP x0 x3 x4 x5 x6).seg ρ μ
def mU (x2:Bool)(μ:Mu):St:= .ret (mS [(2,LV.bool x2)] []) μ
def KQ (x0:List CV)(x3:List UInt8)(x4:Int):SegD:=⟨H9,[(2,0)],cA 9 [1,1,1,1,1,1,1,1],mS [(0,LV.cv (CV.sl x0)),(3,LV.str x3),(4,LV.int .i64 x4)] []⟩
def Ps (x0:List CV)(x3:List UInt8)(x4:Int)(μ:Mu):=(KQ x0 x3 x4).seg ρ μ
def mV (x2:Bool)(μ:Mu):St:= .ret (mS [(2,LV.bool x2)] []) μ
def KR (x0:List CV)(x3:List UInt8)(x4:Int)(x11:List UInt8):SegD:=⟨H9,[(2,0)],cA 9 [1,1,1,1,1,1,1,1,1,1],mS [(0,LV.cv (CV.sl x0)),(3,LV.str x3),(4,LV.int .i64 x4),(11,LV.str x11)] []⟩
def Pt (x0:List CV)(x3:List UInt8)(x4:Int)(x11:List UInt8)(μ:Mu):=(KR x0 x3 x4 x11).seg ρ μ
def mW (x2:Bool)(μ:Mu):St:= .ret (mS [(2,LV.bool x2)] []) μ
def KS (x0:List CV)(x3:List UInt8):SegD:=⟨H9,[(2,0)],cA 9 [1,1,1,1,1,1,1,1,1,1,1],mS [(0,LV.cv (CV.sl x0)),(3,LV.str x3)] []⟩
def Pu (x0:List CV)(x3:List UInt8)(μ:Mu):=(KS x0 x3).seg ρ μ
def pQ (x2:Bool)(μ:Mu):St:= .ret (mS [(2,LV.bool x2)] []) μ
def AR (pv:CV)(μ:Mu):St:= .panic pv (mS [] []) μ
def Nj (pv:CV)(μ:Mu):St:= .panic pv (mS [] []) μ
def Ni (pv:CV)(μ:Mu):St:= .panic pv (mS [] []) μ
def oF (pv:CV)(μ:Mu):St:= .panic pv (mS [] []) μ
def P6 (pv:CV)(μ:Mu):St:= .panic pv (mS [] []) μ
theorem Rb (x0 x3 μ):(KS x0 x3).sK ρ μ=
 callK (ρ.call 17 [LV.str x3] μ) (fun v66 μ67 =>
 opt (aS v66) fun xs70=>
 opt (aA xs70) fun q71=>
 opt (bL q71.1) fun l72=>
 opt (aA q71.2) fun q73=>
 opt (aF .i64 q73.1) fun n74=>
 opt (aA q73.2) fun q75=>
 opt (aF .i64 q75.1) fun n76=>
 opt (aO q75.2) fun u77=>
 cond (decide (n76 = (0 : Int))) (
 callK (ρ.call 19 [LV.cv (CV.sl l72), LV.cv (CV.sl x0)] μ67) (fun v78 μ79 =>
 opt (aM v78) fun b82=>
 some (pQ b82 μ79)) (pX AR)) (
 some (pQ false μ67))) (pX AR):=by kernel_rfl
theorem Iu (x2 μ):kS ρ H9 [] [(2,0)] (pQ x2 μ)=
 some (mW x2 μ):=by kernel_rfl
theorem Ra (x0 x3 x4 x11 μ):(KR x0 x3 x4 x11).sK ρ μ=
 cond (!decide (x4 = (0 : Int))) (
 some (mW false μ)) (
 cond (!decide (x3 = x11)) (
 some (mW false μ)) (
 opt (Pu ρ x0 x3 μ) (kS ρ H9 [] [(2,0)]))):=by kernel_rfl
theorem It (x2 μ):kS ρ H9 [] [(2,0)] (mW x2 μ)=
 some (mV x2 μ):=by kernel_rfl
theorem Q9 (x0 x3 x4 μ):(KQ x0 x3 x4).sK ρ μ=
 callK (ρ.call 35 [LV.cv (CV.sl x0)] μ) (fun v61 μ62 =>
 opt (aL v61) fun s65=>
 cond (decide ((1320 : Int) < (List.length s65 : Int))) (
 cond (decide (x4 = (8 : Int))) (
 some (mV (decide (x3=([]:List UInt8))) μ62)) (
 some (mV false μ62))) (
 opt (Pt ρ x0 x3 x4 s65 μ62) (kS ρ H9 [] [(2,0)]))) (pX Nj):=by kernel_rfl
theorem Ir (x2 μ):kS ρ H9 [] [(2,0)] (mV x2 μ)=
 some (mU x2 μ):=by kernel_rfl
theorem Q8 (x0 x3 x4 x5 x6 μ):(KP x0 x3 x4 x5 x6).sK ρ μ=
 callK (ρ.call 34 [LV.cv (CV.sl x0)] μ) (fun v51 μ52 =>
 opt (aS v51) fun xs55=>
 opt (aA xs55) fun q56=>
 opt (aF .i64 q56.1) fun n57=>
 opt (aA q56.2) fun q58=>
 opt (aF .i64 q58.1) fun n59=>
 opt (aO q58.2) fun u60=>
 cond (!decide (x6 = n59)) (
 some (mU false μ52)) (
 cond (!decide (x5 = n57)) (
 some (mU false μ52)) (
 opt (Ps ρ x0 x3 x4 μ52) (kS ρ H9 [] [(2,0)])))) (pX Ni):=by kernel_rfl
theorem Iq (x2 μ):kS ρ H9 [] [(2,0)] (mU x2 μ)=
 some (jt x2 μ):=by kernel_rfl
theorem SU (x0 μ):(Pz x0).sK ρ μ=
 callK (ρ.call 30 [LV.cv (CV.sl x0)] μ) (fun v11 μ12 =>
 opt (bL v11) fun l15=>
 callK (ρ.call 29 [LV.cv (CV.sl l15)] μ12) (fun v16 μ17 =>
 opt (aS v16) fun xs20=>
 opt (aA xs20) fun q21=>
 opt (aL q21.1) fun s22=>
 opt (aA q21.2) fun q23=>
 opt (aF .i64 q23.1) fun n24=>
 opt (aO q23.2) fun u25=>
 callK (ρ.call 30 [LV.cv (CV.sl x0)] μ17) (fun v26 μ27 =>
 opt (bL v26) fun l30=>
 callK (ρ.call 33 [LV.cv (CV.sl l30)] μ27) (fun v31 μ32 =>
 opt (aS v31) fun xs35=>
 opt (aA xs35) fun q36=>
 opt (aF .i64 q36.1) fun n37=>
 opt (aA q36.2) fun q38=>
 opt (aF .i64 q38.1) fun n39=>
 opt (aO q38.2) fun u40=>
 callK (ρ.call 21 [LV.cv (CV.sl x0)] μ32) (fun v41 μ42 =>
 opt (aS v41) fun xs45=>
 opt (aA xs45) fun q46=>
 opt (aF .i64 q46.1) fun n47=>
 opt (aA q46.2) fun q48=>
 opt (aF .i64 q48.1) fun n49=>
 opt (aO q48.2) fun u50=>
 cond (!decide (n49 = (0 : Int))) (
 cond (decide (n24 = n49)) (
 cond (decide (s22 = ([] : List UInt8))) (
 cond (decide (n39 = n49)) (
 cond (decide (n37 = (0 : Int))) (
 some (jt true μ42)) (
 some (jt (decide (n37=n47)) μ42))) (
 some (jt false μ42))) (
 some (jt false μ42))) (
 some (jt false μ42))) (
 opt (Pr ρ x0 s22 n24 n37 n39 μ42) (kS ρ H9 [] [(2,0)]))) (pX oF)) (pX oF)) (pX oF)) (pX oF)) (pX oF):=by kernel_rfl
theorem L9 (x2 μ):kS ρ H9 [] [(2,0)] (jt x2 μ)=
 some (tr x2 μ):=by kernel_rfl
theorem ST (x0 μ):(Py x0).sK ρ μ=
 callK (ρ.call 20 [LV.cv (CV.sl x0)] μ) (fun v6 μ7 =>
 opt (aM v6) fun b10=>
 cond (!b10) (
 some (tr true μ7)) (
 opt (RE ρ x0 μ7) (kS ρ H9 [] [(2,0)]))) (pX P6):=by kernel_rfl
theorem L8 (x2 μ):kB ρ 9 H9 [] (tr x2 μ)=
 some (.ret (LV.bool x2) μ):=by kernel_rfl
theorem nf9 (a μ):aC E ρ 9 [LV.cv (CV.sl a)] μ=
 callK (ρ.call 11 [] μ) (fun v1 μ2 =>
 opt (aM v1) fun b5=>
 cond (!b5) (
 some (.ret (LV.bool false) μ2)) (
 opt (RD ρ a μ2) (kB ρ 9 H9 []))) pP:=by kernel_rfl
def Kk (x1:List UInt8):SegD:=⟨H12,[],cA 12 [1,0,1,0,1,0,1],mS [(1,LV.str x1)] []⟩
def zQ (x1:List UInt8)(μ:Mu):=(Kk x1).seg ρ μ
def pr (x4:Int)(μ:Mu):St:= .ret (mS [(4,LV.int .i64 x4)] []) μ
def M6 (pv:CV)(μ:Mu):St:= .panic pv (mS [] []) μ
def EI (x0:Int)(x1:List UInt8)(x39:Bool):SegD:=⟨H12,[],cA 12 [1,0,1,0,1,1,1],mS [(0,LV.int .i64 x0),(1,LV.str x1),(39,LV.bool x39)] []⟩
def mJ (x0:Int)(x1:List UInt8)(x39:Bool)(μ:Mu):=(EI x0 x1 x39).seg ρ μ
def gT (x4:Int)(μ:Mu):St:= .ret (mS [(4,LV.int .i64 x4)] []) μ
def JR (pv:CV)(μ:Mu):St:= .panic pv (mS [] []) μ
def rh (μ:Mu):St:= .norm (mS [] []) μ
theorem QK (x1 μ):(Kk x1).sK ρ μ=
 callK (ρ.call 45 [LV.str x1] μ) (fun v7 μ8 =>
 opt (aS v7) fun xs11=>
 opt (aA xs11) fun q12=>
 opt (aF .i64 q12.1) fun n13=>
 opt (aA q12.2) fun q14=>
 opt (dm q14.1) fun c15=>
 opt (aO q14.2) fun u16=>
 cond (decide ((2147483647 : Int) < n13)) (
 some (pr (28:Int) μ8)) (
 some (pr (0:Int) μ8))) (pX M6):=by kernel_rfl
theorem HI (x4 μ):kB ρ 12 H12 [.block 0,.seq (cA 12 [1,1])] (pr x4 μ)=
 some (.ret (LV.int .i64 x4) μ):=by kernel_rfl
theorem BO (x0 x1 x39 μ):(EI x0 x1 x39).sK ρ μ=
 cond (x39) (
 callK (ρ.call 46 [LV.str x1] μ) (fun v19 μ20 =>
 opt (aS v19) fun xs23=>
 opt (aA xs23) fun q24=>
 cT q24.1 fun n25 n26 s27=>
 opt (aA q24.2) fun q28=>
 opt (aM q28.1) fun b29=>
 opt (aO q28.2) fun u30=>
 cond (!b29) (
 some (gT (3:Int) μ20)) (
 cond (!decide (n25 = (1 : Int))) (
 some (gT (3:Int) μ20)) (
 cond (!decide (n26 = x0)) (
 some (gT (3:Int) μ20)) (
 cond (!decide (s27 = x1)) (
 some (gT (3:Int) μ20)) (
 some (gT (0:Int) μ20)))))) (pX JR)) (
 some (rh μ)):=by kernel_rfl
theorem Dm (x4 μ):kB ρ 12 H12 [.block 0,.seq (cA 12 [1,1])] (gT x4 μ)=
 some (.ret (LV.int .i64 x4) μ):=by kernel_rfl
theorem Dn (μ):kB ρ 12 H12 [.block 0,.seq (cA 12 [1,1])] (rh μ)=
 some (.ret (LV.int .i64 (15:Int)) μ):=by kernel_rfl
theorem UX (a b μ):aC E ρ 12 [LV.int .i64 a,LV.str b] μ=
 cond (decide (a = (0 : Int))) (
 cond (decide (b = ([] : List UInt8))) (
 some (.ret (LV.int .i64 (3:Int)) μ)) (
 cond (decide ((10 : Int) < (List.length b : Int))) (
 some (.ret (LV.int .i64 (3:Int)) μ)) (
 callK (ρ.call 43 [LV.str b, LV.cv (CV.clo 44 [])] μ) (fun v1 μ2 =>
 opt (aM v1) fun b5=>
 cond (b5) (
 some (.ret (LV.int .i64 (3:Int)) μ2)) (
 opt (bn b (0:Int)) fun y6=>
 cond (decide ((y6.toNat : Int) = (48 : Int))) (
 cond (!decide (b = ([48] : List UInt8))) (
 some (.ret (LV.int .i64 (3:Int)) μ2)) (
 opt (zQ ρ b μ2) (kB ρ 12 H12 [.block 0,.seq (cA 12 [1,1])]))) (
 opt (zQ ρ b μ2) (kB ρ 12 H12 [.block 0,.seq (cA 12 [1,1])])))) pP))) (
 cond (decide (a = (1 : Int))) (
 opt (mJ ρ a b (decide (a=(1:Int))) μ) (kB ρ 12 H12 [.block 0,.seq (cA 12 [1,1])])) (
 cond (decide (a = (2 : Int))) (
 opt (mJ ρ a b (decide (a=(2:Int))) μ) (kB ρ 12 H12 [.block 0,.seq (cA 12 [1,1])])) (
 cond (decide (a = (5 : Int))) (
 opt (mJ ρ a b (decide (a=(5:Int))) μ) (kB ρ 12 H12 [.block 0,.seq (cA 12 [1,1])])) (
 opt (mJ ρ a b (decide (a=(6:Int))) μ) (kB ρ 12 H12 [.block 0,.seq (cA 12 [1,1])]))))):=by kernel_rfl
def Kl (x0:Int)(x1:List UInt8):SegD:=⟨H13,[(4,0)],cA 13 [1,1],mS [(0,LV.int .i64 x0),(1,LV.str x1)] []⟩
def O8 (x0:Int)(x1:List UInt8)(μ:Mu):=(Kl x0 x1).seg ρ μ
def mP (x4:Int)(μ:Mu):St:= .ret (mS [(4,LV.int .i64 x4)] []) μ
def Km (x0:Int)(x1:List UInt8):SegD:=⟨H13,[(4,0)],cA 13 [1,1,1],mS [(0,LV.int .i64 x0),(1,LV.str x1)] []⟩
def tf (x0:Int)(x1:List UInt8)(μ:Mu):=(Km x0 x1).seg ρ μ
def mQ (x4:Int)(μ:Mu):St:= .ret (mS [(4,LV.int .i64 x4)] []) μ
def Ko (x0:Int)(x1:List UInt8):SegD:=⟨H13,[(4,0)],cA 13 [1,1,1,1],mS [(0,LV.int .i64 x0),(1,LV.str x1)] []⟩
def O9 (x0:Int)(x1:List UInt8)(μ:Mu):=(Ko x0 x1).seg ρ μ
def ku (x4:Int)(μ:Mu):St:= .ret (mS [(4,LV.int .i64 x4)] []) μ
def M9 (pv:CV)(μ:Mu):St:= .panic pv (mS [] []) μ
def M8 (pv:CV)(μ:Mu):St:= .panic pv (mS [] []) μ
def M7 (pv:CV)(μ:Mu):St:= .panic pv (mS [] []) μ
theorem QN (x0 x1 μ):(Ko x0 x1).sK ρ μ=
 callK (ρ.call 18 [LV.str x1] μ) (fun v17 μ18 =>
 opt (aS v17) fun xs21=>
 opt (aA xs21) fun q22=>
 opt (bL q22.1) fun l23=>
 opt (aA q22.2) fun q24=>
 opt (aF .i64 q24.1) fun n25=>
 opt (aA q24.2) fun q26=>
 opt (aF .i64 q26.1) fun n27=>
 opt (aO q26.2) fun u28=>
 cond (!decide (n27 = (0 : Int))) (
 some (ku (3:Int) μ18)) (
 cond (!decide ((List.length l23 : Int) = (1 : Int))) (
 some (ku (3:Int) μ18)) (
 opt (bY l23 (0:Int)) fun c29=>
 cT (LV.cv c29) fun n30 n31 s32=>
 cond (!(decide (n30 = (1 : Int)) && (decide (n31 = x0) && (decide (s32 = x1) && true)))) (
 some (ku (3:Int) μ18)) (
 some (ku (0:Int) μ18))))) (pX M9):=by kernel_rfl
theorem HL (x4 μ):kS ρ H13 [] [(4,0)] (ku x4 μ)=
 some (mQ x4 μ):=by kernel_rfl
theorem QM (x0 x1 μ):(Km x0 x1).sK ρ μ=
 cond (decide ((122 : Int) < (List.length x1 : Int))) (
 some (mQ (3:Int) μ)) (
 callK (ρ.call 48 [LV.str x1] μ) (fun v12 μ13 =>
 opt (aF .i64 v12) fun n16=>
 cond (!decide (n16 = (0 : Int))) (
 some (mQ (3:Int) μ13)) (
 opt (O9 ρ x0 x1 μ13) (kS ρ H13 [] [(4,0)]))) (pX M8)):=by kernel_rfl
theorem HK (x4 μ):kS ρ H13 [] [(4,0)] (mQ x4 μ)=
 some (mP x4 μ):=by kernel_rfl
theorem QL (x0 x1 μ):(Kl x0 x1).sK ρ μ=
 cond (decide (x0 = (0 : Int))) (
 cond (decide ((List.length x1 : Int) = (10 : Int))) (
 callK (ρ.call 47 [LV.str x1, LV.int .i64 (0 : Int)] μ) (fun v6 μ7 =>
 opt (aF .i64 v6) fun n10=>
 cond (decide (n10 = (10 : Int))) (
 opt (bn x1 (0:Int)) fun y11=>
 cond (!decide ((y11.toNat : Int) = (48 : Int))) (
 cond (!(Op.bytesLess x1 ([50, 49, 52, 55, 52, 56, 51, 54, 52, 55] : List UInt8) || decide (x1 = ([50, 49, 52, 55, 52, 56, 51, 54, 52, 55] : List UInt8)))) (
 some (mP (28:Int) μ7)) (
 opt (tf ρ x0 x1 μ7) (kS ρ H13 [] [(4,0)]))) (
 opt (tf ρ x0 x1 μ7) (kS ρ H13 [] [(4,0)]))) (
 opt (tf ρ x0 x1 μ7) (kS ρ H13 [] [(4,0)]))) (pX M7)) (
 opt (tf ρ x0 x1 μ) (kS ρ H13 [] [(4,0)]))) (
 opt (tf ρ x0 x1 μ) (kS ρ H13 [] [(4,0)])):=by kernel_rfl
theorem HJ (x4 μ):kB ρ 13 H13 [] (mP x4 μ)=
 some (.ret (LV.int .i64 x4) μ):=by kernel_rfl
theorem UY (a b μ):aC E ρ 13 [LV.int .i64 a,LV.str b] μ=
 callK (ρ.call 23 [LV.int .i64 a, LV.int .i64 (0 : Int), LV.int .i64 (6 : Int)] μ) (fun v1 μ2 =>
 opt (aM v1) fun b5=>
 cond (!b5) (
 some (.ret (LV.int .i64 (15:Int)) μ2)) (
 cond (decide (a = (3 : Int))) (
 some (.ret (LV.int .i64 (15:Int)) μ2)) (
 cond (decide (a = (4 : Int))) (
 some (.ret (LV.int .i64 (15:Int)) μ2)) (
 opt (O8 ρ a b μ2) (kB ρ 13 H13 []))))) pP:=by kernel_rfl
def Kp (x12:Bool)(o0_0 o0_1:Int)(o0_2:List UInt8):SegD:=⟨H14,[],cA 14 [1,0,1,0,1,1,1],mS [(1,LV.loc 0 0),(12,LV.bool x12)] [Ob.cells [LV.int .i64 o0_0,LV.int .i64 o0_1,LV.str o0_2]]⟩
def we (x12:Bool)(o0_0 o0_1:Int)(o0_2:List UInt8)(μ:Mu):=(Kp x12 o0_0 o0_1 o0_2).seg ρ μ
def px (x2:Int)(μ:Mu):St:= .ret (mS [(2,LV.int .i64 x2)] []) μ
def Kq (o0_0 o0_1:Int)(o0_2:List UInt8):SegD:=⟨H14,[],cA 14 [1,0,1,0,1,1,1,0,1],mS [(1,LV.loc 0 0)] [Ob.cells [LV.int .i64 o0_0,LV.int .i64 o0_1,LV.str o0_2]]⟩
def Pa (o0_0 o0_1:Int)(o0_2:List UInt8)(μ:Mu):=(Kq o0_0 o0_1 o0_2).seg ρ μ
def py (x2:Int)(μ:Mu):St:= .ret (mS [(2,LV.int .i64 x2)] []) μ
def EK (o0_0 o0_1:Int)(o0_2:List UInt8):SegD:=⟨H14,[],cA 14 [1,0,1,0,1,1,1,0,1,1],mS [(1,LV.loc 0 0)] [Ob.cells [LV.int .i64 o0_0,LV.int .i64 o0_1,LV.str o0_2]]⟩
def Au (o0_0 o0_1:Int)(o0_2:List UInt8)(μ:Mu):=(EK o0_0 o0_1 o0_2).seg ρ μ
def jo (x2:Int)(μ:Mu):St:= .ret (mS [(2,LV.int .i64 x2)] []) μ
def Na (pv:CV)(μ:Mu):St:= .panic pv (mS [] []) μ
def uI (μ:Mu):St:= .norm (mS [] []) μ
theorem NW (o0_0 o0_1 o0_2 μ):(EK o0_0 o0_1 o0_2).sK ρ μ=
 cond (decide (o0_0 = (2 : Int))) (
 callK (ρ.call 51 [] μ) (fun v11 μ12 =>
 opt (bL v11) fun l15=>
 callK (ρ.call 50 [LV.cv (CV.sl l15), LV.str o0_2] μ12) (fun v16 μ17 =>
 opt (aM v16) fun b20=>
 cond (!b20) (
 callK (ρ.call 52 [] μ17) (fun v21 μ22 =>
 opt (bL v21) fun l25=>
 callK (ρ.call 50 [LV.cv (CV.sl l25), LV.str o0_2] μ22) (fun v26 μ27 =>
 opt (aM v26) fun b30=>
 cond (!b30) (
 some (jo (7:Int) μ27)) (
 some (jo (0:Int) μ27))) pN) pN) (
 some (jo (0:Int) μ17))) pN) pN) (
 some (jo (0:Int) μ)):=by kernel_rfl
theorem Dq (x2 μ):kS ρ H14 [] [] (jo x2 μ)=
 some (py x2 μ):=by kernel_rfl
theorem QO (o0_0 o0_1 o0_2 μ):(Kq o0_0 o0_1 o0_2).sK ρ μ=
 cond (decide (o0_0 = (0 : Int))) (
 callK (ρ.call 49 [LV.str o0_2] μ) (fun v6 μ7 =>
 opt (aM v6) fun b10=>
 cond (!b10) (
 some (py (4:Int) μ7)) (
 opt (Au ρ o0_0 o0_1 o0_2 μ7) (kS ρ H14 [] []))) (pX Na)) (
 opt (Au ρ o0_0 o0_1 o0_2 μ) (kS ρ H14 [] [])):=by kernel_rfl
theorem HO (x2 μ):kS ρ H14 [] [] (py x2 μ)=
 some (px x2 μ):=by kernel_rfl
theorem FN (x12 o0_0 o0_1 o0_2 μ):(Kp x12 o0_0 o0_1 o0_2).sK ρ μ=
 cond (x12) (
 cond (!decide (o0_1 = (0 : Int))) (
 some (px (3:Int) μ)) (
 opt (Pa ρ o0_0 o0_1 o0_2 μ) (kS ρ H14 [] []))) (
 some (uI μ)):=by kernel_rfl
theorem HM (x2 μ):kB ρ 14 H14 [.block 0,.seq (cA 14 [1,1])] (px x2 μ)=
 some (.ret (LV.int .i64 x2) μ):=by kernel_rfl
theorem HN (μ):kB ρ 14 H14 [.block 0,.seq (cA 14 [1,1])] (uI μ)=
 some (.ret (LV.int .i64 (15:Int)) μ):=by kernel_rfl
theorem UZ (a_0 a_1 a_2 μ):aC E ρ 14 [LV.cv (CV.agg [CV.int .i64 a_0,CV.int .i64 a_1,CV.str a_2])] μ=
 cond (decide (a_0 = (1 : Int))) (
 callK (ρ.call 12 [LV.int .i64 a_1, LV.str a_2] μ) (fun v1 μ2 =>
 opt (aF .i64 v1) fun n5=>
 some (.ret (LV.int .i64 n5) μ2)) pP) (
 cond (decide (a_0 = (0 : Int))) (
 opt (we ρ (decide (a_0=(0:Int))) a_0 a_1 a_2 μ) (kB ρ 14 H14 [.block 0,.seq (cA 14 [1,1])])) (
 opt (we ρ (decide (a_0=(2:Int))) a_0 a_1 a_2 μ) (kB ρ 14 H14 [.block 0,.seq (cA 14 [1,1])]))):=by kernel_rfl
theorem U0 (a_0 a_1 a_2 μ):aC E ρ 15 [LV.cv (CV.agg [CV.int .i64 a_0,CV.int .i64 a_1,CV.str a_2])] μ=
 callK (ρ.call 23 [LV.int .i64 a_0, LV.int .i64 (0 : Int), LV.int .i64 (2 : Int)] μ) (fun v1 μ2 =>
 opt (aM v1) fun b5=>
 cond (!b5) (
 some (.ret (LV.int .i64 (15:Int)) μ2)) (
 cond (decide (a_0 = (1 : Int))) (
 callK (ρ.call 13 [LV.int .i64 a_1, LV.str a_2] μ2) (fun v6 μ7 =>
 opt (aF .i64 v6) fun n10=>
 some (.ret (LV.int .i64 n10) μ7)) pP) (
 cond (!decide (a_1 = (0 : Int))) (
 some (.ret (LV.int .i64 (3:Int)) μ2)) (
 cond (decide (a_0 = (0 : Int))) (
 callK (ρ.call 53 [LV.str a_2] μ2) (fun v11 μ12 =>
 opt (aM v11) fun b15=>
 cond (!b15) (
 some (.ret (LV.int .i64 (4:Int)) μ12)) (
 some (.ret (LV.int .i64 (0:Int)) μ12))) pP) (
 callK (ρ.call 55 [] μ2) (fun v16 μ17 =>
 opt (bL v16) fun l20=>
 callK (ρ.call 54 [LV.cv (CV.sl l20), LV.str a_2] μ17) (fun v21 μ22 =>
 opt (aM v21) fun b25=>
 cond (!b25) (
 callK (ρ.call 56 [] μ22) (fun v26 μ27 =>
 opt (bL v26) fun l30=>
 callK (ρ.call 54 [LV.cv (CV.sl l30), LV.str a_2] μ27) (fun v31 μ32 =>
 opt (aM v31) fun b35=>
 cond (!b35) (
 some (.ret (LV.int .i64 (7:Int)) μ32)) (
 some (.ret (LV.int .i64 (0:Int)) μ32))) pN) pN) (
 some (.ret (LV.int .i64 (0:Int)) μ22))) pN) pN))))) pP:=by kernel_rfl
theorem U1 (a μ):aC E ρ 17 [LV.str a] μ=
 callK (ρ.call 57 [LV.str a, LV.bool false] μ) (fun v1 μ2 =>
 opt (aS v1) fun xs5=>
 opt (aA xs5) fun q6=>
 opt (bL q6.1) fun l7=>
 opt (aA q6.2) fun q8=>
 opt (aF .i64 q8.1) fun n9=>
 opt (aA q8.2) fun q10=>
 opt (aF .i64 q10.1) fun n11=>
 opt (aO q10.2) fun u12=>
 some (.ret (LV.ltup [LV.cv (CV.sl l7),LV.int .i64 n9,LV.int .i64 n11]) μ2)) pP:=by kernel_rfl
def Kr (x0:List UInt8):SegD:=⟨H18,[(2,2),(3,0),(4,0)],cA 18 [1,1],mS [(0,LV.str x0)] []⟩
def Pb (x0:List UInt8)(μ:Mu):=(Kr x0).seg ρ μ
def KT (x0:List UInt8)(x6:List CV)(x7:Int):SegD:=⟨H18,[(6,1)],cA 18 [1,1,1,1,0,0,0],mS [(0,LV.str x0),(6,LV.osl x6),(7,LV.int .i64 x7)] []⟩
def th (x0:List UInt8)(x6:List CV)(x7:Int)(μ:Mu):=(KT x0 x6 x7).loop ρ μ
def Ks (x0:List UInt8)(x6:List CV)(x7:Int):SegD:=⟨H18,[(0,0),(6,1),(7,0)],cA 18 [1,1,1,1,0,0,0,1,0,1],mS [(0,LV.str x0),(6,LV.osl x6),(7,LV.int .i64 x7)] []⟩
def Gy (x0:List UInt8)(x6:List CV)(x7:Int)(μ:Mu):=(Ks x0 x6 x7).seg ρ μ
def uJ (x2:List CV)(x3 x4:Int)(μ:Mu):St:= .ret (mS [(2,LV.cv (CV.sl x2)),(3,LV.int .i64 x3),(4,LV.int .i64 x4)] []) μ
def EX (x0:List UInt8)(x6:List CV)(o0_0 o0_1:Int)(o0_2:List UInt8)(o0_3 o0_4:Int):SegD:=⟨H18,[(0,0),(6,1),(7,0)],cA 18 [1,1,1,1,0,0,0,1,0,1,1,1],mS [(0,LV.str x0),(6,LV.osl x6),(8,LV.loc 0 0)] [Ob.cells [LV.int .i64 o0_0,LV.int .i64 o0_1,LV.str o0_2,LV.int .i64 o0_3,LV.int .i64 o0_4]]⟩
def JA (x0:List UInt8)(x6:List CV)(o0_0 o0_1:Int)(o0_2:List UInt8)(o0_3 o0_4:Int)(μ:Mu):=(EX x0 x6 o0_0 o0_1 o0_2 o0_3 o0_4).seg ρ μ
def ro (x0:List UInt8)(x6:List CV)(x7:Int)(μ:Mu):St:= .norm (mS [(0,LV.str x0),(6,LV.osl x6),(7,LV.int .i64 x7)] []) μ
def uK (x0:List UInt8)(x6:List CV)(x7:Int)(μ:Mu):St:= .norm (mS [(0,LV.str x0),(6,LV.osl x6),(7,LV.int .i64 x7)] []) μ
def Nb (pv:CV)(μ:Mu):St:= .panic pv (mS [] []) μ
def u0 (x2:List CV)(x3 x4:Int)(μ:Mu):St:= .ret (mS [(2,LV.cv (CV.sl x2)),(3,LV.int .i64 x3),(4,LV.int .i64 x4)] []) μ
def u1 (x6:List CV)(μ:Mu):St:= .exit 0 (mS [(6,LV.osl x6)] []) μ
def mR (x2:List CV)(x3 x4:Int)(μ:Mu):St:= .ret (mS [(2,LV.cv (CV.sl x2)),(3,LV.int .i64 x3),(4,LV.int .i64 x4)] []) μ
theorem N9 (x0 x6 o0_0 o0_1 o0_2 o0_3 o0_4 μ):(EX x0 x6 o0_0 o0_1 o0_2 o0_3 o0_4).sK ρ μ=
 aB (fL 3 x6 [CV.agg [CV.int .i64 o0_0, CV.int .i64 o0_1, CV.str o0_2]]) (
 some (ro x0 (x6++[CV.agg [CV.int .i64 o0_0,CV.int .i64 o0_1,CV.str o0_2]]) o0_3 μ)):=by kernel_rfl
theorem DG (x0 x6 x7 μ):kS ρ H18 [] [(0,0),(6,1),(7,0)] (ro x0 x6 x7 μ)=
 some (uK x0 x6 x7 μ):=by kernel_rfl
theorem FO (x0 x6 x7 μ):(Ks x0 x6 x7).sK ρ μ=
 callK (ρ.call 58 [LV.str x0, LV.int .i64 x7] μ) (fun v7 μ8 =>
 Ck v7 fun n11 n12 s13 n14 n15=>
 cond (!decide (n15 = (0 : Int))) (
 some (uJ [] x7 n15 μ8)) (
 opt (JA ρ x0 x6 n11 n12 s13 n14 n15 μ8) (kS ρ H18 [] [(0,0),(6,1),(7,0)]))) (pX Nb):=by kernel_rfl
theorem HQ (x2 x3 x4 μ):kR ρ H18 [.block 1] [(6,1)] (cA 18 [1,1,1,1,0,0,0]) (uJ x2 x3 x4 μ)=
 some (u0 x2 x3 x4 μ):=by kernel_rfl
theorem HR (x0 x6 x7 μ):kR ρ H18 [.block 1] [(6,1)] (cA 18 [1,1,1,1,0,0,0]) (uK x0 x6 x7 μ)=
 th ρ x0 x6 x7 μ:=by kernel_rfl
theorem yq (x0 x6 x7 μ):(KT x0 x6 x7).rK ρ μ=
 cond (decide (x7 < (List.length x0 : Int))) (
 opt (bn x0 x7) fun y6=>
 cond (decide ((y6.toNat : Int) = (32 : Int))) (
 th ρ x0 x6 (IntKind.wrap .i64 (x7+(1:Int))) μ) (
 opt (Gy ρ x0 x6 x7 μ) (kR ρ H18 [.block 1] [(6,1)] (cA 18 [1,1,1,1,0,0,0])))) (
 some (u1 x6 μ)):=by kernel_rfl
theorem Iv (x2 x3 x4 μ):kS ρ H18 [.block 0,.seq (cA 18 [1,1,1,1,1])] [(2,2),(3,0),(4,0)] (u0 x2 x3 x4 μ)=
 some (mR x2 x3 x4 μ):=by kernel_rfl
theorem Iw (x6 μ):kS ρ H18 [.block 0,.seq (cA 18 [1,1,1,1,1])] [(2,2),(3,0),(4,0)] (u1 x6 μ)=
 cond (decide ((300 : Int) < (List.length x6 : Int))) (
 some (mR [] (0:Int) (8:Int) μ)) (
 some (mR x6 (List.length x6:Int) (0:Int) μ)):=by kernel_rfl
theorem QP (x0 μ):(Kr x0).sK ρ μ=
 opt (th ρ x0 [] (0:Int) μ) (kS ρ H18 [.block 0,.seq (cA 18 [1,1,1,1,1])] [(2,2),(3,0),(4,0)]):=by kernel_rfl
theorem HP (x2 x3 x4 μ):kB ρ 18 H18 [] (mR x2 x3 x4 μ)=
 some (.ret (LV.ltup [LV.cv (CV.sl x2),LV.int .i64 x3,LV.int .i64 x4]) μ):=by kernel_rfl
theorem U2 (a μ):aC E ρ 18 [LV.str a] μ=
 callK (ρ.call 48 [LV.str a] μ) (fun v1 μ2 =>
 opt (aF .i64 v1) fun n5=>
 cond (!decide (n5 = (0 : Int))) (
 some (.ret (LV.ltup [LV.cv (CV.v (.slice none 0 0)),LV.int .i64 (0:Int),LV.int .i64 n5]) μ2)) (
 opt (Pb ρ a μ2) (kB ρ 18 H18 []))) pP:=by kernel_rfl
def Kt (x0 x1:List CV):SegD:=⟨H19,[(4,0)],cA 19 [1,1],mS [(0,LV.cv (CV.sl x0)),(1,LV.cv (CV.sl x1))] []⟩
def Pc (x0 x1:List CV)(μ:Mu):=(Kt x0 x1).seg ρ μ
def KU (x0 x1:List CV)(x5:Int):SegD:=⟨H19,[],cA 19 [1,1,0,1,0,0],mS [(0,LV.cv (CV.sl x0)),(1,LV.cv (CV.sl x1)),(5,LV.int .i64 x5)] []⟩
def GI (x0 x1:List CV)(x5:Int)(μ:Mu):=(KU x0 x1 x5).loop ρ μ
def u3 (x4:Bool)(μ:Mu):St:= .ret (mS [(4,LV.bool x4)] []) μ
def u4 (μ:Mu):St:= .exit 0 (mS [] []) μ
def pD (x4:Bool)(μ:Mu):St:= .ret (mS [(4,LV.bool x4)] []) μ
theorem FT (x0 x1 x5 μ):(KU x0 x1 x5).rK ρ μ=
 cond (decide (x5 < (List.length x0 : Int))) (
 opt (bY x0 x5) fun c1=>
 cT (LV.cv c1) fun n2 n3 s4=>
 opt (bY x1 x5) fun c5=>
 cT (LV.cv c5) fun n6 n7 s8=>
 cond (!(decide (n2 = n6) && (decide (n3 = n7) && (decide (s4 = s8) && true)))) (
 some (u3 false μ)) (
 GI ρ x0 x1 (IntKind.wrap .i64 (x5+(1:Int))) μ)) (
 some (u4 μ)):=by kernel_rfl
theorem Ix (x4 μ):kS ρ H19 [.block 0,.seq (cA 19 [1,1,1])] [(4,0)] (u3 x4 μ)=
 some (pD x4 μ):=by kernel_rfl
theorem Iy (μ):kS ρ H19 [.block 0,.seq (cA 19 [1,1,1])] [(4,0)] (u4 μ)=
 some (pD true μ):=by kernel_rfl
theorem QQ (x0 x1 μ):(Kt x0 x1).sK ρ μ=
 opt (GI ρ x0 x1 (0:Int) μ) (kS ρ H19 [.block 0,.seq (cA 19 [1,1,1])] [(4,0)]):=by kernel_rfl
theorem HS (x4 μ):kB ρ 19 H19 [] (pD x4 μ)=
 some (.ret (LV.bool x4) μ):=by kernel_rfl
theorem U3 (a b μ):aC E ρ 19 [LV.cv (CV.sl a),LV.cv (CV.sl b)] μ=
 cond (!decide ((List.length a : Int) = (List.length b : Int))) (
 some (.ret (LV.bool false) μ)) (
 opt (Pc ρ a b μ) (kB ρ 19 H19 [])):=by kernel_rfl
def Ku (x0:List CV):SegD:=⟨H20,[(2,0)],cA 20 [1,1],mS [(0,LV.cv (CV.sl x0))] []⟩
def zR (x0:List CV)(μ:Mu):=(Ku x0).seg ρ μ
def KV (x0:List CV)(x3:Int):SegD:=⟨H20,[],cA 20 [1,1,0,1,0,0],mS [(0,LV.cv (CV.sl x0)),(3,LV.int .i64 x3)] []⟩
def GJ (x0:List CV)(x3:Int)(μ:Mu):=(KV x0 x3).loop ρ μ
def u5 (x2:Bool)(μ:Mu):St:= .ret (mS [(2,LV.bool x2)] []) μ
def u7 (μ:Mu):St:= .exit 0 (mS [] []) μ
def pE (x2:Bool)(μ:Mu):St:= .ret (mS [(2,LV.bool x2)] []) μ
theorem FU (x0 x3 μ):(KV x0 x3).rK ρ μ=
 cond (decide (x3 < (List.length x0 : Int))) (
 opt (bY x0 x3) fun c1=>
 cT (LV.cv c1) fun n2 n3 s4=>
 cond (decide ((130 : Int) < (List.length s4 : Int))) (
 some (u5 false μ)) (
 GJ ρ x0 (IntKind.wrap .i64 (x3+(1:Int))) μ)) (
 some (u7 μ)):=by kernel_rfl
theorem Iz (x2 μ):kS ρ H20 [.block 0,.seq (cA 20 [1,1,1])] [(2,0)] (u5 x2 μ)=
 some (pE x2 μ):=by kernel_rfl
theorem IA (μ):kS ρ H20 [.block 0,.seq (cA 20 [1,1,1])] [(2,0)] (u7 μ)=
 some (pE true μ):=by kernel_rfl
theorem QR (x0 μ):(Ku x0).sK ρ μ=
 opt (GJ ρ x0 (0:Int) μ) (kS ρ H20 [.block 0,.seq (cA 20 [1,1,1])] [(2,0)]):=by kernel_rfl
theorem HT (x2 μ):kB ρ 20 H20 [] (pE x2 μ)=
 some (.ret (LV.bool x2) μ):=by kernel_rfl
theorem SQ (a μ):aC E ρ 20 [LV.cv (CV.sl a)] μ=
 cond (decide ((60 : Int) < (List.length a : Int))) (
 cond (decide ((List.length a : Int) ≤ (300 : Int))) (
 some (.ret (LV.bool false) μ)) (
 cond (decide ((302 : Int) < (List.length a : Int))) (
 some (.ret (LV.bool false) μ)) (
 opt (zR ρ a μ) (kB ρ 20 H20 [])))) (
 cond (decide ((302 : Int) < (List.length a : Int))) (
 some (.ret (LV.bool false) μ)) (
 opt (zR ρ a μ) (kB ρ 20 H20 []))):=by kernel_rfl
def Kv (x0:List CV):SegD:=⟨H21,[(2,0),(3,0)],cA 21 [1,1],mS [(0,LV.cv (CV.sl x0))] []⟩
def Pd (x0:List CV)(μ:Mu):=(Kv x0).seg ρ μ
def KW (x0:List CV)(x4:Int):SegD:=⟨H21,[],cA 21 [1,1,0,1,0,0],mS [(0,LV.cv (CV.sl x0)),(4,LV.int .i64 x4)] []⟩
def GK (x0:List CV)(x4:Int)(μ:Mu):=(KW x0 x4).loop ρ μ
def u9 (x2 x3:Int)(μ:Mu):St:= .ret (mS [(2,LV.int .i64 x2),(3,LV.int .i64 x3)] []) μ
def Nk (pv:CV)(μ:Mu):St:= .panic pv (mS [] []) μ
def vc (μ:Mu):St:= .exit 0 (mS [] []) μ
def pF (x2 x3:Int)(μ:Mu):St:= .ret (mS [(2,LV.int .i64 x2),(3,LV.int .i64 x3)] []) μ
theorem FV (x0 x4 μ):(KW x0 x4).rK ρ μ=
 cond (decide (x4 < (List.length x0 : Int))) (
 opt (bY x0 x4) fun c1=>
 cT (LV.cv c1) fun n2 n3 s4=>
 callK (ρ.call 15 [LV.cv (CV.agg [CV.int .i64 n2, CV.int .i64 n3, CV.str s4])] μ) (fun v5 μ6 =>
 opt (aF .i64 v5) fun n9=>
 cond (!decide (n9 = (0 : Int))) (
 some (u9 x4 n9 μ6)) (
 GK ρ x0 (IntKind.wrap .i64 (x4+(1:Int))) μ6)) (pX Nk)) (
 some (vc μ)):=by kernel_rfl
theorem IB (x2 x3 μ):kS ρ H21 [.block 0,.seq (cA 21 [1,1,1])] [(2,0),(3,0)] (u9 x2 x3 μ)=
 some (pF x2 x3 μ):=by kernel_rfl
theorem IC (μ):kS ρ H21 [.block 0,.seq (cA 21 [1,1,1])] [(2,0),(3,0)] (vc μ)=
 some (pF (0:Int) (0:Int) μ):=by kernel_rfl
theorem QS (x0 μ):(Kv x0).sK ρ μ=
 opt (GK ρ x0 (0:Int) μ) (kS ρ H21 [.block 0,.seq (cA 21 [1,1,1])] [(2,0),(3,0)]):=by kernel_rfl
theorem HU (x2 x3 μ):kB ρ 21 H21 [] (pF x2 x3 μ)=
 some (.ret (LV.ltup [LV.int .i64 x2,LV.int .i64 x3]) μ):=by kernel_rfl
theorem U4 (a μ):aC E ρ 21 [LV.cv (CV.sl a)] μ=
 cond (decide ((300 : Int) < (List.length a : Int))) (
 some (.ret (LV.ltup [LV.int .i64 (0:Int),LV.int .i64 (8:Int)]) μ)) (
 opt (Pd ρ a μ) (kB ρ 21 H21 [])):=by kernel_rfl
theorem U5 (a b c μ):aC E ρ 23 [LV.int .i64 a,LV.int .i64 b,LV.int .i64 c] μ=
 cond (decide (a < b)) (
 some (.ret (LV.bool false) μ)) (
 some (.ret (LV.bool (!(decide (c<a)))) μ)):=by kernel_rfl
def Kw (x0:List CV):SegD:=⟨H29,[(2,0),(3,0)],cA 29 [1,1],mS [(0,LV.cv (CV.sl x0))] []⟩
def Pe (x0:List CV)(μ:Mu):=(Kw x0).seg ρ μ
def wG (x0 x17:List CV)(x18 x19:Int)(lam:Lam):SegD:=⟨H29,[(6,0)],cA 29 [1,1,1,0,1,0,0],mS [(0,LV.cv (CV.sl x0)),(6,LV.tloc 0 103 2),(17,LV.cv (CV.sl x17)),(18,LV.int .i64 x18),(19,LV.int .i64 x19),(1000001,LV.cv CV.undef)] lam true⟩
def zT (x0 x17:List CV)(x18 x19:Int)(lam:Lam)(μ:Mu):=(wG x0 x17 x18 x19 lam).loop ρ μ
def Kx (x0 x17:List CV)(x18 x19:Int)(x34:Bool)(lam:Lam):SegD:=⟨H29,[(0,2),(6,0),(8,0),(17,2),(18,0),(19,0)],cA 29 [1,1,1,0,1,0,0,1,1,0,0,1,0,1],mS [(0,LV.cv (CV.sl x0)),(6,LV.tloc 0 103 2),(8,LV.loc 1 0),(17,LV.cv (CV.sl x17)),(18,LV.int .i64 x18),(19,LV.int .i64 x19),(34,LV.bool x34)] lam true⟩
def pj (x0 x17:List CV)(x18 x19:Int)(x34:Bool)(lam:Lam)(μ:Mu):=(Kx x0 x17 x18 x19 x34 lam).seg ρ μ
def uN (x0 x17:List CV)(x18 x19:Int)(lam:Lam)(μ:Mu):St:= .norm (mS [(0,LV.cv (CV.sl x0)),(6,LV.tloc 0 103 2),(8,LV.loc 1 0),(17,LV.cv (CV.sl x17)),(18,LV.int .i64 x18),(19,LV.int .i64 x19)] lam true) μ
def Nd (pv:CV)(lam:Lam)(μ:Mu):St:= .panic pv (mS [] lam true) μ
def uO (x0 x17:List CV)(x18 x19:Int)(o0_0:CV)(o0_1:List CV)(o1_0 o1_1:Int)(o1_2:List UInt8)(μ:Mu):St:= .norm (mS [(0,LV.cv (CV.sl x0)),(6,LV.tloc 0 103 2),(8,LV.loc 1 0),(17,LV.cv (CV.sl x17)),(18,LV.int .i64 x18),(19,LV.int .i64 x19)] [Ob.cells [LV.cv o0_0,LV.osl o0_1],Ob.cells [LV.int .i64 o1_0,LV.int .i64 o1_1,LV.str o1_2]] true) μ
def EZ (x0 x17:List CV)(x18 x19:Int)(lam:Lam):SegD:=⟨H29,[(0,2),(6,0),(17,2),(18,0),(19,0)],cA 29 [1,1,1,0,1,0,0,1,1,0,0,1,1],mS [(0,LV.cv (CV.sl x0)),(6,LV.tloc 0 103 2),(8,LV.loc 1 0),(17,LV.cv (CV.sl x17)),(18,LV.int .i64 x18),(19,LV.int .i64 x19)] lam true⟩
def wh (x0 x17:List CV)(x18 x19:Int)(lam:Lam)(μ:Mu):=(EZ x0 x17 x18 x19 lam).seg ρ μ
def rq (x0 x17:List CV)(x18 x19:Int)(lam:Lam)(μ:Mu):St:= .norm (mS [(0,LV.cv (CV.sl x0)),(6,LV.tloc 0 103 2),(17,LV.cv (CV.sl x17)),(18,LV.int .i64 x18),(19,LV.int .i64 x19)] lam true) μ
def JV (pv:CV)(lam:Lam)(μ:Mu):St:= .panic pv (mS [] lam true) μ
def E5 (x0 x17:List CV)(x18 x19:Int)(lam:Lam):SegD:=⟨H29,[(0,2),(6,0),(17,2),(18,0),(19,0)],cA 29 [1,1,1,0,1,0,0,1,1,1],mS [(0,LV.cv (CV.sl x0)),(6,LV.tloc 0 103 2),(17,LV.cv (CV.sl x17)),(18,LV.int .i64 x18),(19,LV.int .i64 x19)] lam true⟩
def JB (x0 x17:List CV)(x18 x19:Int)(lam:Lam)(μ:Mu):=(E5 x0 x17 x18 x19 lam).seg ρ μ
def rr (x0 x17:List CV)(x18 x19:Int)(o0_0:CV)(o0_1:List CV)(o1_0 o1_1:Int)(o1_2:List UInt8)(μ:Mu):St:= .norm (mS [(0,LV.cv (CV.sl x0)),(6,LV.tloc 0 103 2),(17,LV.cv (CV.sl x17)),(18,LV.int .i64 x18),(19,LV.int .i64 x19)] [Ob.cells [LV.cv o0_0,LV.osl o0_1],Ob.cells [LV.int .i64 o1_0,LV.int .i64 o1_1,LV.str o1_2]] true) μ
def mX (o0_0:CV)(o0_1:List CV)(μ:Mu):St:= .exit 0 (mS [(6,LV.tloc 0 103 2)] [Ob.cells [LV.cv o0_0,LV.osl o0_1]] true) μ
def Nc (pv:CV)(lam:Lam)(μ:Mu):St:= .panic pv (mS [] lam true) μ
def E6 (x41:Bool)(lam:Lam):SegD:=⟨H29,[(6,0)],cA 29 [1,1,1,1,0,1],mS [(6,LV.tloc 0 103 2),(41,LV.bool x41)] lam true⟩
def Az (x41:Bool)(lam:Lam)(μ:Mu):=(E6 x41 lam).seg ρ μ
def rt (x2:List UInt8)(x3:Int)(o0_0:CV)(o0_1:List CV)(μ:Mu):St:= .ret (mS [(2,LV.str x2),(3,LV.int .i64 x3)] [Ob.cells [LV.cv o0_0,LV.osl o0_1]] true) μ
def ru (o0_0:CV)(o0_1:List CV)(μ:Mu):St:= .norm (mS [(6,LV.tloc 0 103 2)] [Ob.cells [LV.cv o0_0,LV.osl o0_1]] true) μ
def uL (x2:List UInt8)(x3:Int)(o0_0:CV)(o0_1:List CV)(μ:Mu):St:= .ret (mS [(2,LV.str x2),(3,LV.int .i64 x3)] [Ob.cells [LV.cv o0_0,LV.osl o0_1]] true) μ
def E7 (lam:Lam):SegD:=⟨H29,[(2,0),(3,0)],cA 29 [1,1,1,1,1],mS [(6,LV.tloc 0 103 2)] lam true⟩
def JC (lam:Lam)(μ:Mu):=(E7 lam).seg ρ μ
def rx (x2:List UInt8)(x3:Int)(lam:Lam)(μ:Mu):St:= .ret (mS [(2,LV.str x2),(3,LV.int .i64 x3)] lam true) μ
def JW (pv:CV)(lam:Lam)(μ:Mu):St:= .panic pv (mS [] lam true) μ
def uM (x2:List UInt8)(x3:Int)(lam:Lam)(μ:Mu):St:= .ret (mS [(2,LV.str x2),(3,LV.int .i64 x3)] lam true) μ
theorem FP (x0 x17:List CV)(x18 x19:Int)(x34:Bool)(o0_0:CV)(o0_1:List CV)(o1_0 o1_1:Int)(o1_2:List UInt8)(μ:Mu):(Kx x0 x17 x18 x19 x34 [Ob.cells [LV.cv o0_0,LV.osl o0_1],Ob.cells [LV.int .i64 o1_0,LV.int .i64 o1_1,LV.str o1_2]]).sK ρ μ=
 cond (x34) (
 callK (ρ.call 74 [LV.cv (CV.tref (List.length μ) 0 103 2), LV.int .u8 (32 : Int)] (μ ++ [[Ob.cells [LV.cv o0_0, LV.osl o0_1], Ob.cells [LV.int .i64 o1_0, LV.int .i64 o1_1, LV.str o1_2]]])) (fun v27 μ28 =>
 opt (dz μ28) fun q29=>
 opt (dm v27) fun c33=>
 some (uN x0 x17 x18 x19 q29.2 q29.1)) (fun v31 μ30=>
 opt (dz μ30) fun q32=>
 some (Nd v31 q32.2 q32.1))) (
 some (uO x0 x17 x18 x19 o0_0 o0_1 o1_0 o1_1 o1_2 μ)):=by kernel_rfl
theorem Oc (x0 x17:List CV)(x18 x19:Int)(o0_0:CV)(o0_1:List CV)(o1_0 o1_1:Int)(o1_2:List UInt8)(μ:Mu):(EZ x0 x17 x18 x19 [Ob.cells [LV.cv o0_0,LV.osl o0_1],Ob.cells [LV.int .i64 o1_0,LV.int .i64 o1_1,LV.str o1_2]]).sK ρ μ=
 callK (ρ.call 75 [LV.cv (CV.tref (List.length μ) 0 103 2), LV.str o1_2] (μ ++ [[Ob.cells [LV.cv o0_0, LV.osl o0_1], Ob.cells [LV.int .i64 o1_0, LV.int .i64 o1_1, LV.str o1_2]]])) (fun v35 μ36 =>
 opt (dz μ36) fun q37=>
 opt (aS v35) fun xs41=>
 opt (aA xs41) fun q42=>
 opt (aF .i64 q42.1) fun n43=>
 opt (aA q42.2) fun q44=>
 opt (dm q44.1) fun c45=>
 opt (aO q44.2) fun u46=>
 some (rq x0 x17 x18 x19 q37.2 q37.1)) (fun v39 μ38=>
 opt (dz μ38) fun q40=>
 some (JV v39 q40.2 q40.1)):=by kernel_rfl
theorem Od (x0 x17:List CV)(x18 x19:Int)(o0_0:CV)(o0_1:List CV)(o1_0 o1_1:Int)(o1_2:List UInt8)(μ:Mu):(E5 x0 x17 x18 x19 [Ob.cells [LV.cv o0_0,LV.osl o0_1],Ob.cells [LV.int .i64 o1_0,LV.int .i64 o1_1,LV.str o1_2]]).sK ρ μ=
 some (rr x0 x17 x18 (IntKind.wrap .i64 (x19+(1:Int))) o0_0 o0_1 o1_0 o1_1 o1_2 μ):=by kernel_rfl
theorem DI (x0 x17 x18 x19 o0_0 o0_1 o1_0 o1_1 o1_2 μ):kR ρ H29 [] [(6,0)] (cA 29 [1,1,1,0,1,0,0]) (rr x0 x17 x18 x19 o0_0 o0_1 o1_0 o1_1 o1_2 μ)=
 aB (true && Nat.ble 1 (List.length [Ob.cells [LV.cv o0_0, LV.osl o0_1], Ob.cells [LV.int .i64 o1_0, LV.int .i64 o1_1, LV.str o1_2]]) && e8 (List.length μ) 1 [LV.cv (CV.sl x0), LV.tloc 0 103 2, LV.cv (CV.sl x17), LV.int .i64 x18, LV.int .i64 x19, LV.cv CV.undef] && gu (List.length μ) 1 (List.take 1 [Ob.cells [LV.cv o0_0, LV.osl o0_1], Ob.cells [LV.int .i64 o1_0, LV.int .i64 o1_1, LV.str o1_2]])) (
 zT ρ x0 x17 x18 x19 (List.take 1 [Ob.cells [LV.cv o0_0,LV.osl o0_1],Ob.cells [LV.int .i64 o1_0,LV.int .i64 o1_1,LV.str o1_2]]) μ):=by kernel_rfl
theorem DH (x0 x17 x18 x19 lam μ):kR ρ H29 [.block 1,.seq (cA 29 [1,1,1,0,1,0,0,1,1,1])] [(6,0)] (cA 29 [1,1,1,0,1,0,0]) (rq x0 x17 x18 x19 lam μ)=
 ol [(0,[3,1])] lam fun lam47=>
 opt (JB ρ x0 x17 x18 x19 lam47 μ) (kR ρ H29 [] [(6,0)] (cA 29 [1,1,1,0,1,0,0])):=by kernel_rfl
theorem HX (x0 x17 x18 x19 lam μ):kR ρ H29 [.seq (cA 29 [1,1,1,0,1,0,0,1,1,0,0,1,1]),.block 1,.seq (cA 29 [1,1,1,0,1,0,0,1,1,1])] [(6,0)] (cA 29 [1,1,1,0,1,0,0]) (uN x0 x17 x18 x19 lam μ)=
 ol [(0,[3,1])] lam fun lam34=>
 opt (wh ρ x0 x17 x18 x19 lam34 μ) (kR ρ H29 [.block 1,.seq (cA 29 [1,1,1,0,1,0,0,1,1,1])] [(6,0)] (cA 29 [1,1,1,0,1,0,0])):=by kernel_rfl
theorem HY (x0 x17 x18 x19 o0_0 o0_1 o1_0 o1_1 o1_2 μ):kR ρ H29 [.seq (cA 29 [1,1,1,0,1,0,0,1,1,0,0,1,1]),.block 1,.seq (cA 29 [1,1,1,0,1,0,0,1,1,1])] [(6,0)] (cA 29 [1,1,1,0,1,0,0]) (uO x0 x17 x18 x19 o0_0 o0_1 o1_0 o1_1 o1_2 μ)=
 opt (wh ρ x0 x17 x18 x19 [Ob.cells [LV.cv o0_0,LV.osl o0_1],Ob.cells [LV.int .i64 o1_0,LV.int .i64 o1_1,LV.str o1_2]] μ) (kR ρ H29 [.block 1,.seq (cA 29 [1,1,1,0,1,0,0,1,1,1])] [(6,0)] (cA 29 [1,1,1,0,1,0,0])):=by kernel_rfl
theorem FW (x0 x17:List CV)(x18 x19:Int)(o0_0:CV)(o0_1:List CV)(μ:Mu):(wG x0 x17 x18 x19 [Ob.cells [LV.cv o0_0,LV.osl o0_1]]).rK ρ μ=
 cond (decide (x19 < x18)) (
 opt (bY x17 x19) fun c11=>
 cT (LV.cv c11) fun n12 n13 s14=>
 cond (decide ((0 : Int) < x19)) (
 opt (bY x0 (IntKind.wrap .i64 (x19-(1:Int)))) fun c15=>
 cT (LV.cv c15) fun n16 n17 s18=>
 callK (ρ.call 73 [LV.cv (CV.agg [CV.int .i64 n16, CV.int .i64 n17, CV.str s18]), LV.cv (CV.agg [CV.int .i64 n12, CV.int .i64 n13, CV.str s14])] (μ ++ [[Ob.cells [LV.cv o0_0, LV.osl o0_1], Ob.cells [LV.int .i64 n12, LV.int .i64 n13, LV.str s14]]])) (fun v19 μ20 =>
 opt (dz μ20) fun q21=>
 opt (aM v19) fun b25=>
 ol [(0,[3,1])] q21.2 fun lam26=>
 opt (pj ρ x0 x17 x18 x19 b25 lam26 q21.1) (kR ρ H29 [.seq (cA 29 [1,1,1,0,1,0,0,1,1,0,0,1,1]),.block 1,.seq (cA 29 [1,1,1,0,1,0,0,1,1,1])] [(6,0)] (cA 29 [1,1,1,0,1,0,0]))) (fun v23 μ22=>
 opt (dz μ22) fun q24=>
 none)) (
 opt (pj ρ x0 x17 x18 x19 false [Ob.cells [LV.cv o0_0,LV.osl o0_1],Ob.cells [LV.int .i64 n12,LV.int .i64 n13,LV.str s14]] μ) (kR ρ H29 [.seq (cA 29 [1,1,1,0,1,0,0,1,1,0,0,1,1]),.block 1,.seq (cA 29 [1,1,1,0,1,0,0,1,1,1])] [(6,0)] (cA 29 [1,1,1,0,1,0,0])))) (
 some (mX o0_0 o0_1 μ)):=by kernel_rfl
theorem Oe (x41:Bool)(o0_0:CV)(o0_1:List CV)(μ:Mu):(E6 x41 [Ob.cells [LV.cv o0_0,LV.osl o0_1]]).sK ρ μ=
 cond (x41) (
 some (rt ([]:List UInt8) (8:Int) o0_0 o0_1 μ)) (
 some (ru o0_0 o0_1 μ)):=by kernel_rfl
theorem DJ (x2 x3 o0_0 o0_1 μ):kS ρ H29 [.seq (cA 29 [1,1,1,1,1])] [(2,0),(3,0)] (rt x2 x3 o0_0 o0_1 μ)=
 some (uL x2 x3 o0_0 o0_1 μ):=by kernel_rfl
theorem Of (o0_0:CV)(o0_1:List CV)(μ:Mu):(E7 [Ob.cells [LV.cv o0_0,LV.osl o0_1]]).sK ρ μ=
 callK (ρ.call 77 [LV.cv (CV.tref (List.length μ) 0 103 2)] (μ ++ [[Ob.cells [LV.cv o0_0, LV.osl o0_1]]])) (fun v61 μ62 =>
 opt (dz μ62) fun q63=>
 opt (aL v61) fun s67=>
 some (rx s67 (0:Int) q63.2 q63.1)) (fun v65 μ64=>
 opt (dz μ64) fun q66=>
 some (JW v65 q66.2 q66.1)):=by kernel_rfl
theorem DL (x2 x3 lam μ):kS ρ H29 [] [(2,0),(3,0)] (rx x2 x3 lam μ)=
 some (uM x2 x3 lam μ):=by kernel_rfl
theorem DK (o0_0 o0_1 μ):kS ρ H29 [.seq (cA 29 [1,1,1,1,1])] [(2,0),(3,0)] (ru o0_0 o0_1 μ)=
 opt (JC ρ [Ob.cells [LV.cv o0_0,LV.osl o0_1]] μ) (kS ρ H29 [] [(2,0),(3,0)]):=by kernel_rfl
theorem ID (o0_0 o0_1 μ):kS ρ H29 [.block 0,.seq (cA 29 [1,1,1,1])] [(2,0),(3,0)] (mX o0_0 o0_1 μ)=
 callK (ρ.call 76 [LV.cv (CV.tref (List.length μ) 0 103 2)] (μ ++ [[Ob.cells [LV.cv o0_0, LV.osl o0_1]]])) (fun v53 μ54 =>
 opt (dz μ54) fun q55=>
 opt (aF .i64 v53) fun n59=>
 ol [(0,[3,1])] q55.2 fun lam60=>
 opt (Az ρ (decide ((1320:Int)<n59)) lam60 q55.1) (kS ρ H29 [.seq (cA 29 [1,1,1,1,1])] [(2,0),(3,0)])) (fun v57 μ56=>
 opt (dz μ56) fun q58=>
 some (Nc v57 q58.2 q58.1)):=by kernel_rfl
theorem QT (x0 μ):(Kw x0).sK ρ μ=
 aB (true && Nat.ble 1 (List.length [Ob.cells [LV.cv (CV.v (.pointer none)), LV.osl []]]) && e8 (List.length μ) 1 [LV.cv (CV.sl x0), LV.tloc 0 103 2, LV.cv (CV.sl x0), LV.int .i64 (List.length x0 : Int), LV.int .i64 (0 : Int), LV.cv CV.undef] && gu (List.length μ) 1 (List.take 1 [Ob.cells [LV.cv (CV.v (.pointer none)), LV.osl []]])) (
 opt (zT ρ x0 x0 (List.length x0:Int) (0:Int) (List.take 1 [Ob.cells [LV.cv (CV.v (.pointer none)),LV.osl []]]) μ) (kS ρ H29 [.block 0,.seq (cA 29 [1,1,1,1])] [(2,0),(3,0)])):=by kernel_rfl
theorem HV (x2 x3 o0_0 o0_1 μ):kB ρ 29 H29 [] (uL x2 x3 o0_0 o0_1 μ)=
 some (.ret (LV.ltup [LV.str x2,LV.int .i64 x3]) μ):=by kernel_rfl
theorem HW (x2 x3 lam μ):kB ρ 29 H29 [] (uM x2 x3 lam μ)=
 some (.ret (LV.ltup [LV.str x2,LV.int .i64 x3]) μ):=by kernel_rfl
theorem U6 (a μ):aC E ρ 29 [LV.cv (CV.sl a)] μ=
 callK (ρ.call 72 [LV.cv (CV.sl a)] μ) (fun v1 μ2 =>
 opt (aS v1) fun xs5=>
 opt (aA xs5) fun q6=>
 opt (aF .i64 q6.1) fun n7=>
 opt (aA q6.2) fun q8=>
 opt (aF .i64 q8.1) fun n9=>
 opt (aO q8.2) fun u10=>
 cond (!decide (n9 = (0 : Int))) (
 some (.ret (LV.ltup [LV.str ([]:List UInt8),LV.int .i64 n9]) μ2)) (
 opt (Pe ρ a μ2) (kB ρ 29 H29 []))) pP:=by kernel_rfl
theorem U7 (a μ):aC E ρ 30 [LV.cv (CV.sl a)] μ=
 aB (iU a && fL 3 [] a) (
 some (.ret (LV.osl ([]++a)) μ)):=by kernel_rfl
def Ky (x0:List CV):SegD:=⟨H33,[(2,0),(3,0)],cA 33 [1,1],mS [(0,LV.cv (CV.sl x0))] []⟩
def Pf (x0:List CV)(μ:Mu):=(Ky x0).seg ρ μ
def KX (x6:List Value)(x7:Int)(x18:List CV)(x19 x20:Int):SegD:=⟨H33,[(6,4),(7,0)],cA 33 [1,1,1,1,0,1,0,0],mS [(6,LV.ost x6),(7,LV.int .i64 x7),(18,LV.cv (CV.sl x18)),(19,LV.int .i64 x19),(20,LV.int .i64 x20)] []⟩
def ti (x6:List Value)(x7:Int)(x18:List CV)(x19 x20:Int)(μ:Mu):=(KX x6 x7 x18 x19 x20).loop ρ μ
def vd (x2 x3:Int)(μ:Mu):St:= .ret (mS [(2,LV.int .i64 x2),(3,LV.int .i64 x3)] []) μ
def pR (x6:List Value)(x7:Int)(μ:Mu):St:= .exit 0 (mS [(6,LV.ost x6),(7,LV.int .i64 x7)] []) μ
def mT (x2 x3:Int)(μ:Mu):St:= .ret (mS [(2,LV.int .i64 x2),(3,LV.int .i64 x3)] []) μ
theorem FX (x6 x7 x18 x19 x20 μ):(KX x6 x7 x18 x19 x20).rK ρ μ=
 cond (decide (x20 < x19)) (
 opt (bY x18 x20) fun c11=>
 cT (LV.cv c11) fun n12 n13 s14=>
 cond (!decide (n12 = (2 : Int))) (
 ti ρ x6 x7 x18 x19 (IntKind.wrap .i64 (x20+(1:Int))) μ) (
 cond (decide (s14 = ([40] : List UInt8))) (
 aB (Nat.beq 1 1 && bd (List.length x6 + List.length [Value.int .i64 x20])) (
 ti ρ (x6++[Value.int .i64 x20]) (max x7 (List.length (x6++[Value.int .i64 x20]):Int)) x18 x19 (IntKind.wrap .i64 (x20+(1:Int))) μ)) (
 cond (decide (s14 = ([41] : List UInt8))) (
 cond (decide ((List.length x6 : Int) = (0 : Int))) (
 some (vd x20 (13:Int) μ)) (
 aB (true && decide (0 ≤ (IntKind.wrap .i64 ((List.length x6 : Int) - (1 : Int)))) && decide (IntKind.wrap .i64 ((List.length x6 : Int) - (1 : Int)) < (List.length x6 : Int))) (
 ti ρ (List.take (IntKind.wrap .i64 ((List.length x6:Int) -(1:Int))).toNat x6) x7 x18 x19 (IntKind.wrap .i64 (x20+(1:Int))) μ))) (
 ti ρ x6 x7 x18 x19 (IntKind.wrap .i64 (x20+(1:Int))) μ)))) (
 some (pR x6 x7 μ)):=by kernel_rfl
theorem IE (x2 x3 μ):kS ρ H33 [.block 0,.seq (cA 33 [1,1,1,1,1])] [(2,0),(3,0)] (vd x2 x3 μ)=
 some (mT x2 x3 μ):=by kernel_rfl
theorem IF (x6 x7 μ):kS ρ H33 [.block 0,.seq (cA 33 [1,1,1,1,1])] [(2,0),(3,0)] (pR x6 x7 μ)=
 cond (decide ((0 : Int) < (List.length x6 : Int))) (
 opt (bY (List.map CV.v x6) (0:Int)) fun c15=>
 opt (aF .i64 (LV.cv c15)) fun n16=>
 some (mT n16 (21:Int) μ)) (
 some (mT x7 (0:Int) μ)):=by kernel_rfl
theorem QU (x0 μ):(Ky x0).sK ρ μ=
 opt (ti ρ [] (0:Int) x0 (List.length x0:Int) (0:Int) μ) (kS ρ H33 [.block 0,.seq (cA 33 [1,1,1,1,1])] [(2,0),(3,0)]):=by kernel_rfl
theorem HZ (x2 x3 μ):kB ρ 33 H33 [] (mT x2 x3 μ)=
 some (.ret (LV.ltup [LV.int .i64 x2,LV.int .i64 x3]) μ):=by kernel_rfl
theorem U8 (a μ):aC E ρ 33 [LV.cv (CV.sl a)] μ=
 callK (ρ.call 72 [LV.cv (CV.sl a)] μ) (fun v1 μ2 =>
 opt (aS v1) fun xs5=>
 opt (aA xs5) fun q6=>
 opt (aF .i64 q6.1) fun n7=>
 opt (aA q6.2) fun q8=>
 opt (aF .i64 q8.1) fun n9=>
 opt (aO q8.2) fun u10=>
 cond (!decide (n9 = (0 : Int))) (
 some (.ret (LV.ltup [LV.int .i64 (0:Int),LV.int .i64 n9]) μ2)) (
 opt (Pf ρ a μ2) (kB ρ 33 H33 []))) pP:=by kernel_rfl
def KY (x0:List CV)(x4 x5:Int)(x6:List Value)(x7:Int):SegD:=⟨H34,[(4,0),(5,0),(6,4)],cA 34 [1,1,1,0,1,0,0],mS [(0,LV.cv (CV.sl x0)),(4,LV.int .i64 x4),(5,LV.int .i64 x5),(6,LV.ost x6),(7,LV.int .i64 x7)] []⟩
def tj (x0:List CV)(x4 x5:Int)(x6:List Value)(x7:Int)(μ:Mu):=(KY x0 x4 x5 x6 x7).loop ρ μ
def ve (x2 x3:Int)(μ:Mu):St:= .ret (mS [(2,LV.int .i64 x2),(3,LV.int .i64 x3)] []) μ
def E8 (x0:List CV)(x4 x5:Int)(x6:List Value)(x7:Int):SegD:=⟨H34,[(0,2),(4,0),(5,0),(6,4),(7,0)],cA 34 [1,1,1,0,1,0,0,1,0,0,1,0,1,0,1,1,1,0,1],mS [(0,LV.cv (CV.sl x0)),(4,LV.int .i64 x4),(5,LV.int .i64 x5),(6,LV.ost x6),(7,LV.int .i64 x7)] []⟩
def JD (x0:List CV)(x4 x5:Int)(x6:List Value)(x7:Int)(μ:Mu):=(E8 x0 x4 x5 x6 x7).seg ρ μ
def ry (x0:List CV)(x4 x5:Int)(x6:List Value)(x7:Int)(μ:Mu):St:= .norm (mS [(0,LV.cv (CV.sl x0)),(4,LV.int .i64 x4),(5,LV.int .i64 x5),(6,LV.ost x6),(7,LV.int .i64 x7)] []) μ
def pS (x4 x5:Int)(x6:List Value)(μ:Mu):St:= .exit 0 (mS [(4,LV.int .i64 x4),(5,LV.int .i64 x5),(6,LV.ost x6)] []) μ
theorem Og (x0 x4 x5 x6 x7 μ):(E8 x0 x4 x5 x6 x7).sK ρ μ=
 aB (true && decide (0 ≤ (IntKind.wrap .i64 ((List.length x6 : Int) - (1 : Int)))) && decide (IntKind.wrap .i64 ((List.length x6 : Int) - (1 : Int)) < (List.length x6 : Int))) (
 some (ry x0 (IntKind.wrap .i64 (x4-(1:Int))) x5 (List.take (IntKind.wrap .i64 ((List.length x6:Int) -(1:Int))).toNat x6) x7 μ)):=by kernel_rfl
theorem DM (x0 x4 x5 x6 x7 μ):kR ρ H34 [.block 2,.seq (cA 34 [1,1,1,0,1,0,0,1,0,0,1,1]),.block 1,.seq (cA 34 [1,1,1,0,1,0,0,1,1])] [(4,0),(5,0),(6,4)] (cA 34 [1,1,1,0,1,0,0]) (ry x0 x4 x5 x6 x7 μ)=
 tj ρ x0 x4 (max x5 x4) x6 (IntKind.wrap .i64 (x7+(1:Int))) μ:=by kernel_rfl
theorem FY (x0 x4 x5 x6 x7 μ):(KY x0 x4 x5 x6 x7).rK ρ μ=
 cond (decide (x7 < (List.length x0 : Int))) (
 opt (bY x0 x7) fun c1=>
 cT (LV.cv c1) fun n2 n3 s4=>
 cond (!decide (n2 = (2 : Int))) (
 tj ρ x0 x4 x5 x6 (IntKind.wrap .i64 (x7+(1:Int))) μ) (
 opt (bY x0 x7) fun c5=>
 cT (LV.cv c5) fun n6 n7 s8=>
 cond (decide (s8 = ([40] : List UInt8))) (
 aB (Nat.beq 1 1 && bd (List.length x6 + List.length [Value.int .i64 x7])) (
 tj ρ x0 (IntKind.wrap .i64 (x4+(1:Int))) (max x5 (IntKind.wrap .i64 (x4+(1:Int)))) (x6++[Value.int .i64 x7]) (IntKind.wrap .i64 (x7+(1:Int))) μ)) (
 cond (decide (s8 = ([41] : List UInt8))) (
 cond (decide (x4 = (0 : Int))) (
 some (ve x7 (13:Int) μ)) (
 opt (JD ρ x0 x4 x5 x6 x7 μ) (kR ρ H34 [.block 2,.seq (cA 34 [1,1,1,0,1,0,0,1,0,0,1,1]),.block 1,.seq (cA 34 [1,1,1,0,1,0,0,1,1])] [(4,0),(5,0),(6,4)] (cA 34 [1,1,1,0,1,0,0])))) (
 tj ρ x0 x4 (max x5 x4) x6 (IntKind.wrap .i64 (x7+(1:Int))) μ)))) (
 some (pS x4 x5 x6 μ)):=by kernel_rfl
theorem IG (x2 x3 μ):kB ρ 34 H34 [.block 0,.seq (cA 34 [1,1,1,1])] (ve x2 x3 μ)=
 some (.ret (LV.ltup [LV.int .i64 x2,LV.int .i64 x3]) μ):=by kernel_rfl
theorem IH (x4 x5 x6 μ):kB ρ 34 H34 [.block 0,.seq (cA 34 [1,1,1,1])] (pS x4 x5 x6 μ)=
 cond (decide ((0 : Int) < x4)) (
 opt (bY (List.map CV.v x6) (0:Int)) fun c10=>
 opt (aF .i64 (LV.cv c10)) fun n11=>
 some (.ret (LV.ltup [LV.int .i64 n11,LV.int .i64 (21:Int)]) μ)) (
 some (.ret (LV.ltup [LV.int .i64 x5,LV.int .i64 (0:Int)]) μ)):=by kernel_rfl
theorem U9 (a μ):aC E ρ 34 [LV.cv (CV.sl a)] μ=
 opt (tj ρ a (0:Int) (0:Int) [] (0:Int) μ) (kB ρ 34 H34 [.block 0,.seq (cA 34 [1,1,1,1])]):=by kernel_rfl
def KZ (x0:List CV)(x3:List UInt8)(x4:Int):SegD:=⟨H35,[(3,0)],cA 35 [1,1,0,1,0,0],mS [(0,LV.cv (CV.sl x0)),(3,LV.str x3),(4,LV.int .i64 x4)] []⟩
def GL (x0:List CV)(x3:List UInt8)(x4:Int)(μ:Mu):=(KZ x0 x3 x4).loop ρ μ
def Kz (x0:List CV)(x3:List UInt8)(x4:Int):SegD:=⟨H35,[(0,2),(3,0),(4,0)],cA 35 [1,1,0,1,0,0,1,0,0,1],mS [(0,LV.cv (CV.sl x0)),(3,LV.str x3),(4,LV.int .i64 x4)] []⟩
def jL (x0:List CV)(x3:List UInt8)(x4:Int)(μ:Mu):=(Kz x0 x3 x4).seg ρ μ
def uP (x0:List CV)(x3:List UInt8)(x4:Int)(μ:Mu):St:= .norm (mS [(0,LV.cv (CV.sl x0)),(3,LV.str x3),(4,LV.int .i64 x4)] []) μ
def AS (pv:CV)(μ:Mu):St:= .panic pv (mS [] []) μ
def kx (x3:List UInt8)(μ:Mu):St:= .exit 0 (mS [(3,LV.str x3)] []) μ
theorem QV (x0 x3 x4 μ):(Kz x0 x3 x4).sK ρ μ=
 opt (bY x0 x4) fun c21=>
 cT (LV.cv c21) fun n22 n23 s24=>
 aB (bd (List.length x3 + List.length s24)) (
 some (uP x0 (x3++s24) x4 μ)):=by kernel_rfl
theorem H0 (x0 x3 x4 μ):kR ρ H35 [.block 1,.seq (cA 35 [1,1,0,1,0,0,1,1])] [(3,0)] (cA 35 [1,1,0,1,0,0]) (uP x0 x3 x4 μ)=
 GL ρ x0 x3 (IntKind.wrap .i64 (x4+(1:Int))) μ:=by kernel_rfl
theorem FZ (x0 x3 x4 μ):(KZ x0 x3 x4).rK ρ μ=
 cond (decide (x4 < (List.length x0 : Int))) (
 cond (decide ((0 : Int) < x4)) (
 opt (bY x0 (IntKind.wrap .i64 (x4-(1:Int)))) fun c1=>
 cT (LV.cv c1) fun n2 n3 s4=>
 opt (bY x0 x4) fun c5=>
 cT (LV.cv c5) fun n6 n7 s8=>
 aB (bd (List.length s4 + List.length s8)) (
 callK (ρ.call 18 [LV.str (s4 ++ s8)] μ) (fun v9 μ10 =>
 opt (aS v9) fun xs13=>
 opt (aA xs13) fun q14=>
 opt (bL q14.1) fun l15=>
 opt (aA q14.2) fun q16=>
 opt (aF .i64 q16.1) fun n17=>
 opt (aA q16.2) fun q18=>
 opt (aF .i64 q18.1) fun n19=>
 opt (aO q18.2) fun u20=>
 cond (!decide (n19 = (0 : Int))) (
 aB (bd (List.length x3 + List.length ([32] : List UInt8))) (
 opt (jL ρ x0 (x3++([32]:List UInt8)) x4 μ10) (kR ρ H35 [.block 1,.seq (cA 35 [1,1,0,1,0,0,1,1])] [(3,0)] (cA 35 [1,1,0,1,0,0])))) (
 aB (jF 3 (IntKind.wrap .i64 (x4 - (1 : Int))) x0) (
 opt (dk x0 (IntKind.wrap .i64 (x4-(1:Int))) (IntKind.wrap .i64 (x4+(1:Int)))) fun l26=>
 callK (ρ.call 19 [LV.cv (CV.sl l15), LV.cv (CV.sl l26)] μ10) (fun v27 μ28 =>
 opt (aM v27) fun b31=>
 cond (!b31) (
 aB (bd (List.length x3 + List.length ([32] : List UInt8))) (
 opt (jL ρ x0 (x3++([32]:List UInt8)) x4 μ28) (kR ρ H35 [.block 1,.seq (cA 35 [1,1,0,1,0,0,1,1])] [(3,0)] (cA 35 [1,1,0,1,0,0])))) (
 opt (bY x0 (IntKind.wrap .i64 (x4-(1:Int)))) fun c33=>
 cT (LV.cv c33) fun n34 n35 s36=>
 callK (ρ.call 83 [LV.cv (CV.agg [CV.int .i64 n34, CV.int .i64 n35, CV.str s36])] μ28) (fun v37 μ38 =>
 opt (aM v37) fun b41=>
 cond (b41) (
 opt (bY x0 x4) fun c42=>
 cT (LV.cv c42) fun n43 n44 s45=>
 cond (decide (s45 = ([69] : List UInt8))) (
 aB (bd (List.length x3 + List.length ([32] : List UInt8))) (
 opt (jL ρ x0 (x3++([32]:List UInt8)) x4 μ38) (kR ρ H35 [.block 1,.seq (cA 35 [1,1,0,1,0,0,1,1])] [(3,0)] (cA 35 [1,1,0,1,0,0])))) (
 opt (bY x0 x4) fun c47=>
 cT (LV.cv c47) fun n48 n49 s50=>
 cond (decide (s50 = ([68] : List UInt8))) (
 aB (bd (List.length x3 + List.length ([32] : List UInt8))) (
 opt (jL ρ x0 (x3++([32]:List UInt8)) x4 μ38) (kR ρ H35 [.block 1,.seq (cA 35 [1,1,0,1,0,0,1,1])] [(3,0)] (cA 35 [1,1,0,1,0,0])))) (
 opt (jL ρ x0 x3 x4 μ38) (kR ρ H35 [.block 1,.seq (cA 35 [1,1,0,1,0,0,1,1])] [(3,0)] (cA 35 [1,1,0,1,0,0]))))) (
 opt (jL ρ x0 x3 x4 μ38) (kR ρ H35 [.block 1,.seq (cA 35 [1,1,0,1,0,0,1,1])] [(3,0)] (cA 35 [1,1,0,1,0,0])))) (pX AS))) (pX AS)))) pN)) (
 opt (jL ρ x0 x3 x4 μ) (kR ρ H35 [.block 1,.seq (cA 35 [1,1,0,1,0,0,1,1])] [(3,0)] (cA 35 [1,1,0,1,0,0])))) (
 some (kx x3 μ)):=by kernel_rfl
theorem II (x3 μ):kB ρ 35 H35 [.block 0,.seq (cA 35 [1,1,1])] (kx x3 μ)=
 some (.ret (LV.str x3) μ):=by kernel_rfl
theorem Va (a μ):aC E ρ 35 [LV.cv (CV.sl a)] μ=
 opt (GL ρ a ([]:List UInt8) (0:Int) μ) (kB ρ 35 H35 [.block 0,.seq (cA 35 [1,1,1])]):=by kernel_rfl
def KA (x0:List UInt8):SegD:=⟨H41,[(4,0)],cA 41 [1,1],mS [(0,LV.str x0)] []⟩
def Pg (x0:List UInt8)(μ:Mu):=(KA x0).seg ρ μ
def K0 (x0:List UInt8)(x5:Int):SegD:=⟨H41,[],cA 41 [1,1,0,1,0,0],mS [(0,LV.str x0),(5,LV.int .i64 x5)] []⟩
def GM (x0:List UInt8)(x5:Int)(μ:Mu):=(K0 x0 x5).loop ρ μ
def vf (x4:Bool)(μ:Mu):St:= .ret (mS [(4,LV.bool x4)] []) μ
def Nl (pv:CV)(μ:Mu):St:= .panic pv (mS [] []) μ
def vg (μ:Mu):St:= .exit 0 (mS [] []) μ
def pG (x4:Bool)(μ:Mu):St:= .ret (mS [(4,LV.bool x4)] []) μ
theorem F0 (x0 x5 μ):(K0 x0 x5).rK ρ μ=
 cond (decide (x5 < (List.length x0 : Int))) (
 opt (bn x0 x5) fun y1=>
 callK (ρ.call 23 [LV.int .i64 (IntKind.wrap .i64 (y1.toNat : Int)), LV.int .i64 (32 : Int), LV.int .i64 (126 : Int)] μ) (fun v2 μ3 =>
 opt (aM v2) fun b6=>
 cond (!b6) (
 some (vf false μ3)) (
 GM ρ x0 (IntKind.wrap .i64 (x5+(1:Int))) μ3)) (pX Nl)) (
 some (vg μ)):=by kernel_rfl
theorem IJ (x4 μ):kS ρ H41 [.block 0,.seq (cA 41 [1,1,1])] [(4,0)] (vf x4 μ)=
 some (pG x4 μ):=by kernel_rfl
theorem IK (μ):kS ρ H41 [.block 0,.seq (cA 41 [1,1,1])] [(4,0)] (vg μ)=
 some (pG true μ):=by kernel_rfl
theorem QW (x0 μ):(KA x0).sK ρ μ=
 opt (GM ρ x0 (0:Int) μ) (kS ρ H41 [.block 0,.seq (cA 41 [1,1,1])] [(4,0)]):=by kernel_rfl
theorem H1 (x4 μ):kB ρ 41 H41 [] (pG x4 μ)=
 some (.ret (LV.bool x4) μ):=by kernel_rfl
theorem Vb (a b μ):aC E ρ 41 [LV.str a,LV.int .i64 b] μ=
 cond (decide (b < (List.length a : Int))) (
 some (.ret (LV.bool false) μ)) (
 opt (Pg ρ a μ) (kB ρ 41 H41 [])):=by kernel_rfl
def K1 (x0 x3:List UInt8)(x4:Int):SegD:=⟨H42,[(3,0)],cA 42 [1,1,0,1,0,0],mS [(0,LV.str x0),(3,LV.str x3),(4,LV.int .i64 x4)] []⟩
def zU (x0 x3:List UInt8)(x4:Int)(μ:Mu):=(K1 x0 x3 x4).loop ρ μ
def vh (x3:List UInt8)(μ:Mu):St:= .exit 0 (mS [(3,LV.str x3)] []) μ
theorem F1 (x0 x3 x4 μ):(K1 x0 x3 x4).rK ρ μ=
 cond (decide (x4 < (List.length x0 : Int))) (
 opt (dk x0 x4 (IntKind.wrap .i64 (x4+(1:Int)))) fun s1=>
 aB (bd (List.length x3 + List.length s1)) (
 opt (bn x0 x4) fun y2=>
 cond (decide ((y2.toNat : Int) = (39 : Int))) (
 aB (bd (List.length (x3 ++ s1) + List.length ([39] : List UInt8))) (
 zU ρ x0 ((x3++s1)++([39]:List UInt8)) (IntKind.wrap .i64 (x4+(1:Int))) μ)) (
 zU ρ x0 (x3++s1) (IntKind.wrap .i64 (x4+(1:Int))) μ))) (
 some (vh x3 μ)):=by kernel_rfl
theorem IL (x3 μ):kB ρ 42 H42 [.block 0,.seq (cA 42 [1,1,1])] (vh x3 μ)=
 aB (bd (List.length x3 + List.length ([39] : List UInt8))) (
 some (.ret (LV.str (x3++([39]:List UInt8))) μ)):=by kernel_rfl
theorem Vc (a μ):aC E ρ 42 [LV.str a] μ=
 opt (zU ρ a ([39]:List UInt8) (0:Int) μ) (kB ρ 42 H42 [.block 0,.seq (cA 42 [1,1,1])]):=by kernel_rfl
def KB (x4:CV)(o0_0 o0_1:Int)(o0_2:List UInt8):SegD:=⟨H46,[(2,0),(3,0)],cA 46 [1,1,1],mS [(2,LV.loc 0 0),(4,LV.cv x4)] [Ob.cells [LV.int .i64 o0_0,LV.int .i64 o0_1,LV.str o0_2]]⟩
def Ph (x4:CV)(o0_0 o0_1:Int)(o0_2:List UInt8)(μ:Mu):=(KB x4 o0_0 o0_1 o0_2).seg ρ μ
def uQ (x3:Bool)(o0_0 o0_1:Int)(o0_2:List UInt8)(μ:Mu):St:= .ret (mS [(2,LV.loc 0 0),(3,LV.bool x3)] [Ob.cells [LV.int .i64 o0_0,LV.int .i64 o0_1,LV.str o0_2]]) μ
theorem QX (x4 o0_0 o0_1 o0_2 μ):(KB x4 o0_0 o0_1 o0_2).sK ρ μ=
 opt (jZ (LV.cv x4)) fun b13=>
 aB (!b13) (
 opt (gD (LV.cv (kY x4))) fun cs14=>
 opt (aA cs14) fun q15=>
 opt (aL (LV.cv q15.1)) fun s16=>
 opt (aA q15.2) fun q17=>
 opt (aM (LV.cv q17.1)) fun b18=>
 opt (aA q17.2) fun q19=>
 opt (bL (LV.cv q19.1)) fun l20=>
 opt (aA q19.2) fun q21=>
 opt (bL (LV.cv q21.1)) fun l22=>
 opt (aO q21.2) fun u23=>
 opt (bY l20 (0:Int)) fun c24=>
 cT (LV.cv c24) fun n25 n26 s27=>
 some (uQ true n25 n26 s27 μ)):=by kernel_rfl
theorem H2 (x3 o0_0 o0_1 o0_2 μ):kB ρ 46 H46 [] (uQ x3 o0_0 o0_1 o0_2 μ)=
 some (.ret (LV.ltup [LV.cv (CV.agg [CV.int .i64 o0_0,CV.int .i64 o0_1,CV.str o0_2]),LV.bool x3]) μ):=by kernel_rfl
theorem Vd (a μ):aC E ρ 46 [LV.str a] μ=
 callK (ρ.call 78 [LV.str a, LV.bool false] μ) (fun v1 μ2 =>
 opt (aS v1) fun xs5=>
 opt (aA xs5) fun q6=>
 opt (dm q6.1) fun c7=>
 opt (aA q6.2) fun q8=>
 opt (aF .i64 q8.1) fun n9=>
 opt (aA q8.2) fun q10=>
 opt (aF .i64 q10.1) fun n11=>
 opt (aO q10.2) fun u12=>
 cond (!decide (n11 = (0 : Int))) (
 some (.ret (LV.ltup [LV.cv (CV.agg [CV.int .i64 (0:Int),CV.int .i64 (0:Int),CV.str ([]:List UInt8)]),LV.bool false]) μ2)) (
 cond (!decide (n9 = (1 : Int))) (
 some (.ret (LV.ltup [LV.cv (CV.agg [CV.int .i64 (0:Int),CV.int .i64 (0:Int),CV.str ([]:List UInt8)]),LV.bool false]) μ2)) (
 opt (Ph ρ c7 (0:Int) (0:Int) ([]:List UInt8) μ2) (kB ρ 46 H46 [])))) pP:=by kernel_rfl
def K2 (x0:List UInt8)(x1 x5:Int):SegD:=⟨H47,[(5,0)],cA 47 [1,1,0,0,0],mS [(0,LV.str x0),(1,LV.int .i64 x1),(5,LV.int .i64 x5)] []⟩
def GN (x0:List UInt8)(x1 x5:Int)(μ:Mu):=(K2 x0 x1 x5).loop ρ μ
def pT (x5:Int)(μ:Mu):St:= .exit 0 (mS [(5,LV.int .i64 x5)] []) μ
def Nm (pv:CV)(μ:Mu):St:= .panic pv (mS [] []) μ
theorem F2 (x0 x1 x5 μ):(K2 x0 x1 x5).rK ρ μ=
 cond (decide (IntKind.wrap .i64 (x1 + x5) < (List.length x0 : Int))) (
 opt (bn x0 (IntKind.wrap .i64 (x1+x5))) fun y1=>
 callK (ρ.call 67 [LV.int .u8 (y1.toNat : Int)] μ) (fun v2 μ3 =>
 opt (aM v2) fun b6=>
 cond (b6) (
 GN ρ x0 x1 (IntKind.wrap .i64 (x5+(1:Int))) μ3) (
 some (pT x5 μ3))) (pX Nm)) (
 some (pT x5 μ)):=by kernel_rfl
theorem IM (x5 μ):kB ρ 47 H47 [.block 0,.seq (cA 47 [1,1,1])] (pT x5 μ)=
 some (.ret (LV.int .i64 x5) μ):=by kernel_rfl
theorem Ve (a b μ):aC E ρ 47 [LV.str a,LV.int .i64 b] μ=
 opt (GN ρ a b (0:Int) μ) (kB ρ 47 H47 [.block 0,.seq (cA 47 [1,1,1])]):=by kernel_rfl
theorem Vf (a μ):aC E ρ 48 [LV.str a] μ=
 cond (decide ((1320 : Int) < (List.length a : Int))) (
 some (.ret (LV.int .i64 (8:Int)) μ)) (
 callK (ρ.call 41 [LV.str a, LV.int .i64 (1320 : Int)] μ) (fun v1 μ2 =>
 opt (aM v1) fun b5=>
 cond (!b5) (
 some (.ret (LV.int .i64 (3:Int)) μ2)) (
 some (.ret (LV.int .i64 (0:Int)) μ2))) pP):=by kernel_rfl
theorem Vg (a μ):aC E ρ 49 [LV.str a] μ=
 cond (!decide (a = ([] : List UInt8))) (
 cond (decide ((List.length a : Int) ≤ (31 : Int))) (
 opt (bn a (0:Int)) fun y1=>
 callK (ρ.call 90 [LV.int .u8 (y1.toNat : Int)] μ) (fun v2 μ3 =>
 opt (aM v2) fun b6=>
 cond (b6) (
 callK (ρ.call 91 [LV.str a] μ3) (fun v7 μ8 =>
 opt (aL v7) fun s11=>
 cond (decide (s11 = a)) (
 callK (ρ.call 43 [LV.str a, LV.cv (CV.clo 92 [])] μ8) (fun v12 μ13 =>
 opt (aM v12) fun b16=>
 some (.ret (LV.bool (!b16)) μ13)) pP) (
 some (.ret (LV.bool false) μ8))) pP) (
 some (.ret (LV.bool false) μ3))) pP) (
 some (.ret (LV.bool false) μ))) (
 some (.ret (LV.bool false) μ)):=by kernel_rfl
theorem Vh (a b μ):aC E ρ 50 [LV.cv (CV.sl a),LV.str b] μ=
 callK (ρ.call 94 [LV.cv (CV.sl a), LV.str b] μ) (fun v1 μ2 =>
 opt (aF .i64 v1) fun n5=>
 some (.ret (LV.bool (decide ((0:Int)≤n5))) μ2)) pP:=by kernel_rfl
theorem Vi (μ):aC E ρ 51 [] μ=
 some (.ret (LV.osl [CV.str ([46,76,84,46]:List UInt8),CV.str ([46,76,69,46]:List UInt8),CV.str ([46,69,81,46]:List UInt8),CV.str ([46,78,69,46]:List UInt8),CV.str ([46,71,69,46]:List UInt8),CV.str ([46,71,84,46]:List UInt8),CV.str ([46,78,79,84,46]:List UInt8),CV.str ([46,65,78,68,46]:List UInt8),CV.str ([46,79,82,46]:List UInt8),CV.str ([46,69,81,86,46]:List UInt8),CV.str ([46,78,69,81,86,46]:List UInt8)]) μ):=by kernel_rfl
theorem Vj (μ):aC E ρ 52 [] μ=
 some (.ret (LV.osl [CV.str ([42,42]:List UInt8),CV.str ([47,47]:List UInt8),CV.str ([61,62]:List UInt8),CV.str ([42]:List UInt8),CV.str ([47]:List UInt8),CV.str ([43]:List UInt8),CV.str ([45]:List UInt8),CV.str ([40]:List UInt8),CV.str ([41]:List UInt8),CV.str ([44]:List UInt8),CV.str ([58]:List UInt8),CV.str ([61]:List UInt8),CV.str ([37]:List UInt8)]) μ):=by kernel_rfl
def KC (x0:List UInt8):SegD:=⟨H53,[(2,0)],cA 53 [1,1],mS [(0,LV.str x0)] []⟩
def Pi (x0:List UInt8)(μ:Mu):=(KC x0).seg ρ μ
def K3 (x0:List UInt8)(x3:Int):SegD:=⟨H53,[],cA 53 [1,1,0,1,0,0],mS [(0,LV.str x0),(3,LV.int .i64 x3)] []⟩
def zV (x0:List UInt8)(x3:Int)(μ:Mu):=(K3 x0 x3).loop ρ μ
def vk (x2:Bool)(μ:Mu):St:= .ret (mS [(2,LV.bool x2)] []) μ
def vm (μ:Mu):St:= .exit 0 (mS [] []) μ
def pH (x2:Bool)(μ:Mu):St:= .ret (mS [(2,LV.bool x2)] []) μ
theorem F3 (x0 x3 μ):(K3 x0 x3).rK ρ μ=
 cond (decide (x3 < (List.length x0 : Int))) (
 opt (bn x0 x3) fun y6=>
 cond (decide ((97 : Int) ≤ (y6.toNat : Int))) (
 opt (bn x0 x3) fun y7=>
 cond (decide ((y7.toNat : Int) ≤ (122 : Int))) (
 some (vk false μ)) (
 zV ρ x0 (IntKind.wrap .i64 (x3+(1:Int))) μ)) (
 zV ρ x0 (IntKind.wrap .i64 (x3+(1:Int))) μ)) (
 some (vm μ)):=by kernel_rfl
theorem IN (x2 μ):kS ρ H53 [.block 0,.seq (cA 53 [1,1,1])] [(2,0)] (vk x2 μ)=
 some (pH x2 μ):=by kernel_rfl
theorem IP (μ):kS ρ H53 [.block 0,.seq (cA 53 [1,1,1])] [(2,0)] (vm μ)=
 some (pH true μ):=by kernel_rfl
theorem QY (x0 μ):(KC x0).sK ρ μ=
 opt (zV ρ x0 (0:Int) μ) (kS ρ H53 [.block 0,.seq (cA 53 [1,1,1])] [(2,0)]):=by kernel_rfl
theorem Ia (x2 μ):kB ρ 53 H53 [] (pH x2 μ)=
 some (.ret (LV.bool x2) μ):=by kernel_rfl
theorem Vk (a μ):aC E ρ 53 [LV.str a] μ=
 callK (ρ.call 95 [LV.str a] μ) (fun v1 μ2 =>
 opt (aM v1) fun b5=>
 cond (!b5) (
 some (.ret (LV.bool false) μ2)) (
 opt (Pi ρ a μ2) (kB ρ 53 H53 []))) pP:=by kernel_rfl
def K4 (x1:List UInt8)(x5:Bool)(x8:List CV)(x9 x10:Int):SegD:=⟨H54,[(5,0)],cA 54 [1,1,0,1,0,0],mS [(1,LV.str x1),(5,LV.bool x5),(8,LV.cv (CV.sl x8)),(9,LV.int .i64 x9),(10,LV.int .i64 x10)] []⟩
def zW (x1:List UInt8)(x5:Bool)(x8:List CV)(x9 x10:Int)(μ:Mu):=(K4 x1 x5 x8 x9 x10).loop ρ μ
def vn (x5:Bool)(μ:Mu):St:= .exit 0 (mS [(5,LV.bool x5)] []) μ
theorem F4 (x1 x5 x8 x9 x10 μ):(K4 x1 x5 x8 x9 x10).rK ρ μ=
 cond (decide (x10 < x9)) (
 opt (bY x8 x10) fun c1=>
 opt (aL (LV.cv c1)) fun s2=>
 cond (x5) (
 zW ρ x1 true x8 x9 (IntKind.wrap .i64 (x10+(1:Int))) μ) (
 zW ρ x1 (decide (s2=x1)) x8 x9 (IntKind.wrap .i64 (x10+(1:Int))) μ)) (
 some (vn x5 μ)):=by kernel_rfl
theorem IQ (x5 μ):kB ρ 54 H54 [.block 0,.seq (cA 54 [1,1,1])] (vn x5 μ)=
 some (.ret (LV.bool x5) μ):=by kernel_rfl
theorem Vl (a b μ):aC E ρ 54 [LV.cv (CV.sl a),LV.str b] μ=
 opt (zW ρ b false a (List.length a:Int) (0:Int) μ) (kB ρ 54 H54 [.block 0,.seq (cA 54 [1,1,1])]):=by kernel_rfl
theorem Vm (μ):aC E ρ 55 [] μ=
 some (.ret (LV.osl [CV.str ([46,76,84,46]:List UInt8),CV.str ([46,76,69,46]:List UInt8),CV.str ([46,69,81,46]:List UInt8),CV.str ([46,78,69,46]:List UInt8),CV.str ([46,71,69,46]:List UInt8),CV.str ([46,71,84,46]:List UInt8),CV.str ([46,78,79,84,46]:List UInt8),CV.str ([46,65,78,68,46]:List UInt8),CV.str ([46,79,82,46]:List UInt8),CV.str ([46,69,81,86,46]:List UInt8),CV.str ([46,78,69,81,86,46]:List UInt8)]) μ):=by kernel_rfl
theorem Vn (μ):aC E ρ 56 [] μ=
 some (.ret (LV.osl [CV.str ([42,42]:List UInt8),CV.str ([47,47]:List UInt8),CV.str ([61,62]:List UInt8),CV.str ([42]:List UInt8),CV.str ([47]:List UInt8),CV.str ([43]:List UInt8),CV.str ([45]:List UInt8),CV.str ([40]:List UInt8),CV.str ([41]:List UInt8),CV.str ([44]:List UInt8),CV.str ([58]:List UInt8),CV.str ([61]:List UInt8),CV.str ([37]:List UInt8)]) μ):=by kernel_rfl
def KD (x7:CV)(x8:Int):SegD:=⟨H57,[(4,2),(5,0),(6,0)],cA 57 [1,1,1],mS [(7,LV.cv x7),(8,LV.int .i64 x8)] []⟩
def Pj (x7:CV)(x8:Int)(μ:Mu):=(KD x7 x8).seg ρ μ
def uR (x4:List CV)(x5 x6:Int)(μ:Mu):St:= .ret (mS [(4,LV.cv (CV.sl x4)),(5,LV.int .i64 x5),(6,LV.int .i64 x6)] []) μ
theorem QZ (x7 x8 μ):(KD x7 x8).sK ρ μ=
 opt (jZ (LV.cv x7)) fun b13=>
 aB (!b13) (
 opt (gD (LV.cv (kY x7))) fun cs14=>
 opt (aA cs14) fun q15=>
 opt (aL (LV.cv q15.1)) fun s16=>
 opt (aA q15.2) fun q17=>
 opt (aM (LV.cv q17.1)) fun b18=>
 opt (aA q17.2) fun q19=>
 opt (bL (LV.cv q19.1)) fun l20=>
 opt (aA q19.2) fun q21=>
 opt (bL (LV.cv q21.1)) fun l22=>
 opt (aO q21.2) fun u23=>
 some (uR l20 x8 (0:Int) μ)):=by kernel_rfl
theorem Ib (x4 x5 x6 μ):kB ρ 57 H57 [] (uR x4 x5 x6 μ)=
 some (.ret (LV.ltup [LV.cv (CV.sl x4),LV.int .i64 x5,LV.int .i64 x6]) μ):=by kernel_rfl
theorem Vo (a b μ):aC E ρ 57 [LV.str a,LV.bool b] μ=
 callK (ρ.call 78 [LV.str a, LV.bool b] μ) (fun v1 μ2 =>
 opt (aS v1) fun xs5=>
 opt (aA xs5) fun q6=>
 opt (dm q6.1) fun c7=>
 opt (aA q6.2) fun q8=>
 opt (aF .i64 q8.1) fun n9=>
 opt (aA q8.2) fun q10=>
 opt (aF .i64 q10.1) fun n11=>
 opt (aO q10.2) fun u12=>
 cond (!decide (n11 = (0 : Int))) (
 some (.ret (LV.ltup [LV.cv (CV.v (.slice none 0 0)),LV.int .i64 n9,LV.int .i64 n11]) μ2)) (
 opt (Pj ρ c7 n9 μ2) (kB ρ 57 H57 []))) pP:=by kernel_rfl
def K5 (x0:List UInt8)(x1 x6 o0_0 o0_1:Int)(o0_2:List UInt8)(o0_3 o0_4:Int):SegD:=⟨H58,[(0,0),(1,0),(4,0),(6,0)],cA 58 [1,1,0,0,1,0,1,0,0,0],mS [(0,LV.str x0),(1,LV.int .i64 x1),(4,LV.loc 0 0),(6,LV.int .i64 x6)] [Ob.cells [LV.int .i64 o0_0,LV.int .i64 o0_1,LV.str o0_2,LV.int .i64 o0_3,LV.int .i64 o0_4]]⟩
def tk (x0:List UInt8)(x1 x6 o0_0 o0_1:Int)(o0_2:List UInt8)(o0_3 o0_4:Int)(μ:Mu):=(K5 x0 x1 x6 o0_0 o0_1 o0_2 o0_3 o0_4).loop ρ μ
def mY (x0:List UInt8)(x1 x6 o0_0 o0_1:Int)(o0_2:List UInt8)(o0_3 o0_4:Int)(μ:Mu):St:= .exit 1 (mS [(0,LV.str x0),(1,LV.int .i64 x1),(4,LV.loc 0 0),(6,LV.int .i64 x6)] [Ob.cells [LV.int .i64 o0_0,LV.int .i64 o0_1,LV.str o0_2,LV.int .i64 o0_3,LV.int .i64 o0_4]]) μ
def AT (pv:CV)(μ:Mu):St:= .panic pv (mS [] []) μ
def KE (x0:List UInt8)(x1 x6 o0_0 o0_1:Int)(o0_2:List UInt8)(o0_3 o0_4:Int):SegD:=⟨H58,[(0,0),(1,0),(4,0)],cA 58 [1,1,0,0,1,0,1,1,1],mS [(0,LV.str x0),(1,LV.int .i64 x1),(4,LV.loc 0 0),(6,LV.int .i64 x6)] [Ob.cells [LV.int .i64 o0_0,LV.int .i64 o0_1,LV.str o0_2,LV.int .i64 o0_3,LV.int .i64 o0_4]]⟩
def Pk (x0:List UInt8)(x1 x6 o0_0 o0_1:Int)(o0_2:List UInt8)(o0_3 o0_4:Int)(μ:Mu):=(KE x0 x1 x6 o0_0 o0_1 o0_2 o0_3 o0_4).seg ρ μ
def uS (o0_0 o0_1:Int)(o0_2:List UInt8)(o0_3 o0_4:Int)(μ:Mu):St:= .ret (mS [(4,LV.loc 0 0)] [Ob.cells [LV.int .i64 o0_0,LV.int .i64 o0_1,LV.str o0_2,LV.int .i64 o0_3,LV.int .i64 o0_4]]) μ
def Nf (pv:CV)(μ:Mu):St:= .panic pv (mS [] []) μ
def E9 (x0:List UInt8)(x1 x5:Int)(x60:Bool)(o0_0 o0_1:Int)(o0_2:List UInt8)(o0_3 o0_4:Int):SegD:=⟨H58,[(0,0),(1,0),(4,0)],cA 58 [1,1,0,0,1,1,1],mS [(0,LV.str x0),(1,LV.int .i64 x1),(4,LV.loc 0 0),(5,LV.int .u8 x5),(60,LV.bool x60)] [Ob.cells [LV.int .i64 o0_0,LV.int .i64 o0_1,LV.str o0_2,LV.int .i64 o0_3,LV.int .i64 o0_4]]⟩
def oz (x0:List UInt8)(x1 x5:Int)(x60:Bool)(o0_0 o0_1:Int)(o0_2:List UInt8)(o0_3 o0_4:Int)(μ:Mu):=(E9 x0 x1 x5 x60 o0_0 o0_1 o0_2 o0_3 o0_4).seg ρ μ
def dC (o0_0 o0_1:Int)(o0_2:List UInt8)(o0_3 o0_4:Int)(μ:Mu):St:= .ret (mS [(4,LV.loc 0 0)] [Ob.cells [LV.int .i64 o0_0,LV.int .i64 o0_1,LV.str o0_2,LV.int .i64 o0_3,LV.int .i64 o0_4]]) μ
def ny (pv:CV)(μ:Mu):St:= .panic pv (mS [] []) μ
def Fw (x0:List UInt8)(x1:Int)(x85:List CV)(x86 x87 o0_0 o0_1:Int)(o0_2:List UInt8)(o0_3 o0_4:Int):SegD:=⟨H58,[(0,0),(1,0),(4,0)],cA 58 [1,1,0,0,1,1,1,1,1,0,0,1,0,0],mS [(0,LV.str x0),(1,LV.int .i64 x1),(4,LV.loc 0 0),(85,LV.cv (CV.sl x85)),(86,LV.int .i64 x86),(87,LV.int .i64 x87)] [Ob.cells [LV.int .i64 o0_0,LV.int .i64 o0_1,LV.str o0_2,LV.int .i64 o0_3,LV.int .i64 o0_4]]⟩
def AK (x0:List UInt8)(x1:Int)(x85:List CV)(x86 x87 o0_0 o0_1:Int)(o0_2:List UInt8)(o0_3 o0_4:Int)(μ:Mu):=(Fw x0 x1 x85 x86 x87 o0_0 o0_1 o0_2 o0_3 o0_4).loop ρ μ
def rJ (o0_0 o0_1:Int)(o0_2:List UInt8)(o0_3 o0_4:Int)(μ:Mu):St:= .ret (mS [(4,LV.loc 0 0)] [Ob.cells [LV.int .i64 o0_0,LV.int .i64 o0_1,LV.str o0_2,LV.int .i64 o0_3,LV.int .i64 o0_4]]) μ
def J1 (pv:CV)(μ:Mu):St:= .panic pv (mS [] []) μ
def rL (x0:List UInt8)(x1 o0_0 o0_1:Int)(o0_2:List UInt8)(o0_3 o0_4:Int)(μ:Mu):St:= .exit 3 (mS [(0,LV.str x0),(1,LV.int .i64 x1),(4,LV.loc 0 0)] [Ob.cells [LV.int .i64 o0_0,LV.int .i64 o0_1,LV.str o0_2,LV.int .i64 o0_3,LV.int .i64 o0_4]]) μ
def Fx (x0:List UInt8)(x1:Int)(x103:List CV)(x104 x105 o0_0 o0_1:Int)(o0_2:List UInt8)(o0_3 o0_4:Int):SegD:=⟨H58,[(4,0)],cA 58 [1,1,0,0,1,1,1,1,1,0,1,0,1,0,0],mS [(0,LV.str x0),(1,LV.int .i64 x1),(4,LV.loc 0 0),(103,LV.cv (CV.sl x103)),(104,LV.int .i64 x104),(105,LV.int .i64 x105)] [Ob.cells [LV.int .i64 o0_0,LV.int .i64 o0_1,LV.str o0_2,LV.int .i64 o0_3,LV.int .i64 o0_4]]⟩
def AL (x0:List UInt8)(x1:Int)(x103:List CV)(x104 x105 o0_0 o0_1:Int)(o0_2:List UInt8)(o0_3 o0_4:Int)(μ:Mu):=(Fx x0 x1 x103 x104 x105 o0_0 o0_1 o0_2 o0_3 o0_4).loop ρ μ
def rM (o0_0 o0_1:Int)(o0_2:List UInt8)(o0_3 o0_4:Int)(μ:Mu):St:= .ret (mS [(4,LV.loc 0 0)] [Ob.cells [LV.int .i64 o0_0,LV.int .i64 o0_1,LV.str o0_2,LV.int .i64 o0_3,LV.int .i64 o0_4]]) μ
def J2 (pv:CV)(μ:Mu):St:= .panic pv (mS [] []) μ
def rN (o0_0 o0_1:Int)(o0_2:List UInt8)(o0_3 o0_4:Int)(μ:Mu):St:= .exit 5 (mS [(4,LV.loc 0 0)] [Ob.cells [LV.int .i64 o0_0,LV.int .i64 o0_1,LV.str o0_2,LV.int .i64 o0_3,LV.int .i64 o0_4]]) μ
def rz (x0:List UInt8)(x1 o0_0 o0_1:Int)(o0_2:List UInt8)(o0_3 o0_4:Int)(μ:Mu):St:= .norm (mS [(0,LV.str x0),(1,LV.int .i64 x1),(4,LV.loc 0 0)] [Ob.cells [LV.int .i64 o0_0,LV.int .i64 o0_1,LV.str o0_2,LV.int .i64 o0_3,LV.int .i64 o0_4]]) μ
def Fa (x0:List UInt8)(x1 o0_0 o0_1:Int)(o0_2:List UInt8)(o0_3 o0_4:Int):SegD:=⟨H58,[(4,0)],cA 58 [1,1,1],mS [(0,LV.str x0),(1,LV.int .i64 x1),(4,LV.loc 0 0)] [Ob.cells [LV.int .i64 o0_0,LV.int .i64 o0_1,LV.str o0_2,LV.int .i64 o0_3,LV.int .i64 o0_4]]⟩
def JE (x0:List UInt8)(x1 o0_0 o0_1:Int)(o0_2:List UInt8)(o0_3 o0_4:Int)(μ:Mu):=(Fa x0 x1 o0_0 o0_1 o0_2 o0_3 o0_4).seg ρ μ
def Fy (x0:List UInt8)(x1:Int)(x133:List CV)(x134 x135 o0_0 o0_1:Int)(o0_2:List UInt8)(o0_3 o0_4 o1_0 o1_1:Int)(o1_2:List UInt8)(o1_3 o1_4:Int):SegD:=⟨H58,[(0,0),(1,0),(4,0),(11,0)],cA 58 [1,1,1,1,0,1,0,0],mS [(0,LV.str x0),(1,LV.int .i64 x1),(4,LV.loc 0 0),(11,LV.loc 1 0),(133,LV.cv (CV.sl x133)),(134,LV.int .i64 x134),(135,LV.int .i64 x135)] [Ob.cells [LV.int .i64 o0_0,LV.int .i64 o0_1,LV.str o0_2,LV.int .i64 o0_3,LV.int .i64 o0_4],Ob.cells [LV.int .i64 o1_0,LV.int .i64 o1_1,LV.str o1_2,LV.int .i64 o1_3,LV.int .i64 o1_4]]⟩
def q5 (x0:List UInt8)(x1:Int)(x133:List CV)(x134 x135 o0_0 o0_1:Int)(o0_2:List UInt8)(o0_3 o0_4 o1_0 o1_1:Int)(o1_2:List UInt8)(o1_3 o1_4:Int)(μ:Mu):=(Fy x0 x1 x133 x134 x135 o0_0 o0_1 o0_2 o0_3 o0_4 o1_0 o1_1 o1_2 o1_3 o1_4).loop ρ μ
def J3 (pv:CV)(μ:Mu):St:= .panic pv (mS [] []) μ
def rO (x0:List UInt8)(x1 o0_0 o0_1:Int)(o0_2:List UInt8)(o0_3 o0_4 o1_0 o1_1:Int)(o1_2:List UInt8)(o1_3 o1_4:Int)(μ:Mu):St:= .exit 7 (mS [(0,LV.str x0),(1,LV.int .i64 x1),(4,LV.loc 0 0),(11,LV.loc 1 0)] [Ob.cells [LV.int .i64 o0_0,LV.int .i64 o0_1,LV.str o0_2,LV.int .i64 o0_3,LV.int .i64 o0_4],Ob.cells [LV.int .i64 o1_0,LV.int .i64 o1_1,LV.str o1_2,LV.int .i64 o1_3,LV.int .i64 o1_4]]) μ
def yJ (pv:CV)(μ:Mu):St:= .panic pv (mS [] []) μ
def Fz (x0:List UInt8)(x1:Int)(x164:List CV)(x165 x166 o0_0 o0_1:Int)(o0_2:List UInt8)(o0_3 o0_4 o1_0 o1_1:Int)(o1_2:List UInt8)(o1_3 o1_4:Int):SegD:=⟨H58,[(4,0),(11,0)],cA 58 [1,1,1,1,1,0,1,0,0],mS [(0,LV.str x0),(1,LV.int .i64 x1),(4,LV.loc 0 0),(11,LV.loc 1 0),(164,LV.cv (CV.sl x164)),(165,LV.int .i64 x165),(166,LV.int .i64 x166)] [Ob.cells [LV.int .i64 o0_0,LV.int .i64 o0_1,LV.str o0_2,LV.int .i64 o0_3,LV.int .i64 o0_4],Ob.cells [LV.int .i64 o1_0,LV.int .i64 o1_1,LV.str o1_2,LV.int .i64 o1_3,LV.int .i64 o1_4]]⟩
def oC (x0:List UInt8)(x1:Int)(x164:List CV)(x165 x166 o0_0 o0_1:Int)(o0_2:List UInt8)(o0_3 o0_4 o1_0 o1_1:Int)(o1_2:List UInt8)(o1_3 o1_4:Int)(μ:Mu):=(Fz x0 x1 x164 x165 x166 o0_0 o0_1 o0_2 o0_3 o0_4 o1_0 o1_1 o1_2 o1_3 o1_4).loop ρ μ
def J4 (pv:CV)(μ:Mu):St:= .panic pv (mS [] []) μ
def lD (o0_0 o0_1:Int)(o0_2:List UInt8)(o0_3 o0_4 o1_0 o1_1:Int)(o1_2:List UInt8)(o1_3 o1_4:Int)(μ:Mu):St:= .exit 9 (mS [(4,LV.loc 0 0),(11,LV.loc 1 0)] [Ob.cells [LV.int .i64 o0_0,LV.int .i64 o0_1,LV.str o0_2,LV.int .i64 o0_3,LV.int .i64 o0_4],Ob.cells [LV.int .i64 o1_0,LV.int .i64 o1_1,LV.str o1_2,LV.int .i64 o1_3,LV.int .i64 o1_4]]) μ
def nz (o0_0 o0_1:Int)(o0_2:List UInt8)(o0_3 o0_4:Int)(μ:Mu):St:= .ret (mS [(4,LV.loc 0 0)] [Ob.cells [LV.int .i64 o0_0,LV.int .i64 o0_1,LV.str o0_2,LV.int .i64 o0_3,LV.int .i64 o0_4]]) μ
theorem F5 (x0 x1 x6 o0_0 o0_1 o0_2 o0_3 o0_4 μ):(K5 x0 x1 x6 o0_0 o0_1 o0_2 o0_3 o0_4).rK ρ μ=
 cond (decide (x6 < (List.length x0 : Int))) (
 opt (bn x0 x6) fun y7=>
 callK (ρ.call 96 [LV.int .u8 (y7.toNat : Int)] μ) (fun v8 μ9 =>
 opt (aM v8) fun b12=>
 cond (b12) (
 tk ρ x0 x1 (IntKind.wrap .i64 (x6+(1:Int))) o0_0 o0_1 o0_2 o0_3 o0_4 μ9) (
 opt (bn x0 x6) fun y13=>
 callK (ρ.call 67 [LV.int .u8 (y13.toNat : Int)] μ9) (fun v14 μ15 =>
 opt (aM v14) fun b18=>
 cond (b18) (
 tk ρ x0 x1 (IntKind.wrap .i64 (x6+(1:Int))) o0_0 o0_1 o0_2 o0_3 o0_4 μ15) (
 opt (bn x0 x6) fun y19=>
 cond (decide ((y19.toNat : Int) = (95 : Int))) (
 tk ρ x0 x1 (IntKind.wrap .i64 (x6+(1:Int))) o0_0 o0_1 o0_2 o0_3 o0_4 μ15) (
 some (mY x0 x1 x6 o0_0 o0_1 o0_2 o0_3 o0_4 μ15)))) (pX AT))) (pX AT)) (
 some (mY x0 x1 x6 o0_0 o0_1 o0_2 o0_3 o0_4 μ)):=by kernel_rfl
theorem Q0 (x0 x1 x6 o0_0 o0_1 o0_2 o0_3 o0_4 μ):(KE x0 x1 x6 o0_0 o0_1 o0_2 o0_3 o0_4).sK ρ μ=
 opt (dk x0 x1 x6) fun s20=>
 callK (ρ.call 97 [LV.str s20] μ) (fun v21 μ22 =>
 opt (aL v21) fun s25=>
 some (uS (0:Int) (0:Int) s25 x6 (0:Int) μ22)) (pX Nf):=by kernel_rfl
theorem Ic (o0_0 o0_1 o0_2 o0_3 o0_4 μ):kB ρ 58 H58 [.block 0,.seq (cA 58 [1,1,1])] (uS o0_0 o0_1 o0_2 o0_3 o0_4 μ)=
 some (.ret (LV.cv (CV.agg [CV.int .i64 o0_0,CV.int .i64 o0_1,CV.str o0_2,CV.int .i64 o0_3,CV.int .i64 o0_4])) μ):=by kernel_rfl
theorem IR (x0 x1 x6 o0_0 o0_1 o0_2 o0_3 o0_4 μ):kB ρ 58 H58 [.block 1,.seq (cA 58 [1,1,0,0,1,0,1,1]),.block 0,.seq (cA 58 [1,1,1])] (mY x0 x1 x6 o0_0 o0_1 o0_2 o0_3 o0_4 μ)=
 cond (decide ((31 : Int) < IntKind.wrap .i64 (x6 - x1))) (
 some (.ret (LV.cv (CV.agg [CV.int .i64 (0:Int),CV.int .i64 (0:Int),CV.str ([]:List UInt8),CV.int .i64 (0:Int),CV.int .i64 (4:Int)])) μ)) (
 opt (Pk ρ x0 x1 x6 o0_0 o0_1 o0_2 o0_3 o0_4 μ) (kB ρ 58 H58 [.block 0,.seq (cA 58 [1,1,1])])):=by kernel_rfl
theorem BV (x0 x1 x85 x86 x87 o0_0 o0_1 o0_2 o0_3 o0_4 μ):(Fw x0 x1 x85 x86 x87 o0_0 o0_1 o0_2 o0_3 o0_4).rK ρ μ=
 cond (decide (x87 < x86)) (
 opt (bY x85 x87) fun c47=>
 opt (aL (LV.cv c47)) fun s48=>
 callK (ρ.call 99 [LV.str x0, LV.int .i64 x1, LV.str s48] μ) (fun v49 μ50 =>
 opt (aM v49) fun b53=>
 cond (b53) (
 some (rJ (2:Int) (0:Int) s48 (IntKind.wrap .i64 (x1+(List.length s48:Int))) (0:Int) μ50)) (
 AK ρ x0 x1 x85 x86 (IntKind.wrap .i64 (x87+(1:Int))) o0_0 o0_1 o0_2 o0_3 o0_4 μ50)) (pX J1)) (
 some (rL x0 x1 o0_0 o0_1 o0_2 o0_3 o0_4 μ)):=by kernel_rfl
theorem D2 (o0_0 o0_1 o0_2 o0_3 o0_4 μ):kS ρ H58 [.block 3,.seq (cA 58 [1,1,0,0,1,1,1,1,1,0,1])] [(0,0),(1,0),(4,0)] (rJ o0_0 o0_1 o0_2 o0_3 o0_4 μ)=
 some (dC o0_0 o0_1 o0_2 o0_3 o0_4 μ):=by kernel_rfl
theorem BW (x0 x1 x103 x104 x105 o0_0 o0_1 o0_2 o0_3 o0_4 μ):(Fx x0 x1 x103 x104 x105 o0_0 o0_1 o0_2 o0_3 o0_4).rK ρ μ=
 cond (decide (x105 < x104)) (
 opt (bY x103 x105) fun c54=>
 opt (aL (LV.cv c54)) fun s55=>
 callK (ρ.call 99 [LV.str x0, LV.int .i64 x1, LV.str s55] μ) (fun v56 μ57 =>
 opt (aM v56) fun b60=>
 cond (b60) (
 some (rM (1:Int) (5:Int) s55 (IntKind.wrap .i64 (x1+(List.length s55:Int))) (0:Int) μ57)) (
 AL ρ x0 x1 x103 x104 (IntKind.wrap .i64 (x105+(1:Int))) o0_0 o0_1 o0_2 o0_3 o0_4 μ57)) (pX J2)) (
 some (rN o0_0 o0_1 o0_2 o0_3 o0_4 μ)):=by kernel_rfl
theorem D4 (o0_0 o0_1 o0_2 o0_3 o0_4 μ):kS ρ H58 [.block 5,.seq (cA 58 [1,1,0,0,1,1,1,1,1,0,1,1])] [(0,0),(1,0),(4,0)] (rM o0_0 o0_1 o0_2 o0_3 o0_4 μ)=
 some (dC o0_0 o0_1 o0_2 o0_3 o0_4 μ):=by kernel_rfl
theorem D5 (o0_0 o0_1 o0_2 o0_3 o0_4 μ):kS ρ H58 [.block 5,.seq (cA 58 [1,1,0,0,1,1,1,1,1,0,1,1])] [(0,0),(1,0),(4,0)] (rN o0_0 o0_1 o0_2 o0_3 o0_4 μ)=
 some (dC (0:Int) (0:Int) ([]:List UInt8) (0:Int) (7:Int) μ):=by kernel_rfl
theorem D3 (x0 x1 o0_0 o0_1 o0_2 o0_3 o0_4 μ):kS ρ H58 [.block 3,.seq (cA 58 [1,1,0,0,1,1,1,1,1,0,1])] [(0,0),(1,0),(4,0)] (rL x0 x1 o0_0 o0_1 o0_2 o0_3 o0_4 μ)=
 opt (AL ρ x0 x1 [CV.str ([46,84,82,85,69,46]:List UInt8),CV.str ([46,70,65,76,83,69,46]:List UInt8)] (2:Int) (0:Int) o0_0 o0_1 o0_2 o0_3 o0_4 μ) (kS ρ H58 [.block 5,.seq (cA 58 [1,1,0,0,1,1,1,1,1,0,1,1])] [(0,0),(1,0),(4,0)]):=by kernel_rfl
theorem Oh (x0 x1 x5 x60 o0_0 o0_1 o0_2 o0_3 o0_4 μ):(E9 x0 x1 x5 x60 o0_0 o0_1 o0_2 o0_3 o0_4).sK ρ μ=
 cond (x60) (
 callK (ρ.call 98 [LV.str x0, LV.int .i64 x1] μ) (fun v33 μ34 =>
 Ck v33 fun n37 n38 s39 n40 n41=>
 some (dC n37 n38 s39 n40 n41 μ34)) (pX ny)) (
 cond (decide (x5 = (46 : Int))) (
 callK (ρ.call 55 [] μ) (fun v42 μ43 =>
 opt (bL v42) fun l46=>
 opt (AK ρ x0 x1 l46 (List.length l46:Int) (0:Int) o0_0 o0_1 o0_2 o0_3 o0_4 μ43) (kS ρ H58 [.block 3,.seq (cA 58 [1,1,0,0,1,1,1,1,1,0,1])] [(0,0),(1,0),(4,0)])) (pX ny)) (
 cond (decide (x5 = (39 : Int))) (
 callK (ρ.call 81 [LV.str x0, LV.int .i64 x1] μ) (fun v63 μ64 =>
 Ck v63 fun n67 n68 s69 n70 n71=>
 some (dC n67 n68 s69 n70 n71 μ64)) (pX ny)) (
 cond (decide (x5 = (34 : Int))) (
 callK (ρ.call 81 [LV.str x0, LV.int .i64 x1] μ) (fun v72 μ73 =>
 Ck v72 fun n76 n77 s78 n79 n80=>
 some (dC n76 n77 s78 n79 n80 μ73)) (pX ny)) (
 some (rz x0 x1 o0_0 o0_1 o0_2 o0_3 o0_4 μ))))):=by kernel_rfl
theorem ue (o0_0 o0_1 o0_2 o0_3 o0_4 μ):kB ρ 58 H58 [.block 0,.seq (cA 58 [1,1,1])] (dC o0_0 o0_1 o0_2 o0_3 o0_4 μ)=
 some (.ret (LV.cv (CV.agg [CV.int .i64 o0_0,CV.int .i64 o0_1,CV.str o0_2,CV.int .i64 o0_3,CV.int .i64 o0_4])) μ):=by kernel_rfl
theorem qv (x0 x1 x133 x134 x135 o0_0 o0_1 o0_2 o0_3 o0_4 o1_0 o1_1 o1_2 o1_3 o1_4 μ):(Fy x0 x1 x133 x134 x135 o0_0 o0_1 o0_2 o0_3 o0_4 o1_0 o1_1 o1_2 o1_3 o1_4).rK ρ μ=
 cond (decide (x135 < x134)) (
 opt (bY x133 x135) fun c86=>
 PW (LV.cv c86) fun s87 s88=>
 callK (ρ.call 99 [LV.str x0, LV.int .i64 x1, LV.str s87] μ) (fun v89 μ90 =>
 opt (aM v89) fun b93=>
 cond (b93) (
 cond (decide (o1_3 < IntKind.wrap .i64 (x1 + (List.length s87 : Int)))) (
 q5 ρ x0 x1 x133 x134 (IntKind.wrap .i64 (x135+(1:Int))) o0_0 o0_1 o0_2 o0_3 o0_4 (2:Int) (0:Int) s88 (IntKind.wrap .i64 (x1+(List.length s87:Int))) (0:Int) μ90) (
 q5 ρ x0 x1 x133 x134 (IntKind.wrap .i64 (x135+(1:Int))) o0_0 o0_1 o0_2 o0_3 o0_4 o1_0 o1_1 o1_2 o1_3 o1_4 μ90)) (
 q5 ρ x0 x1 x133 x134 (IntKind.wrap .i64 (x135+(1:Int))) o0_0 o0_1 o0_2 o0_3 o0_4 o1_0 o1_1 o1_2 o1_3 o1_4 μ90)) (pX J3)) (
 some (rO x0 x1 o0_0 o0_1 o0_2 o0_3 o0_4 o1_0 o1_1 o1_2 o1_3 o1_4 μ)):=by kernel_rfl
theorem qw (x0 x1 x164 x165 x166 o0_0 o0_1 o0_2 o0_3 o0_4 o1_0 o1_1 o1_2 o1_3 o1_4 μ):(Fz x0 x1 x164 x165 x166 o0_0 o0_1 o0_2 o0_3 o0_4 o1_0 o1_1 o1_2 o1_3 o1_4).rK ρ μ=
 cond (decide (x166 < x165)) (
 opt (bY x164 x166) fun c99=>
 opt (aL (LV.cv c99)) fun s100=>
 callK (ρ.call 99 [LV.str x0, LV.int .i64 x1, LV.str s100] μ) (fun v101 μ102 =>
 opt (aM v101) fun b105=>
 cond (b105) (
 cond (decide (o1_3 < IntKind.wrap .i64 (x1 + (List.length s100 : Int)))) (
 oC ρ x0 x1 x164 x165 (IntKind.wrap .i64 (x166+(1:Int))) o0_0 o0_1 o0_2 o0_3 o0_4 (2:Int) (0:Int) s100 (IntKind.wrap .i64 (x1+(List.length s100:Int))) (0:Int) μ102) (
 oC ρ x0 x1 x164 x165 (IntKind.wrap .i64 (x166+(1:Int))) o0_0 o0_1 o0_2 o0_3 o0_4 o1_0 o1_1 o1_2 o1_3 o1_4 μ102)) (
 oC ρ x0 x1 x164 x165 (IntKind.wrap .i64 (x166+(1:Int))) o0_0 o0_1 o0_2 o0_3 o0_4 o1_0 o1_1 o1_2 o1_3 o1_4 μ102)) (pX J4)) (
 some (lD o0_0 o0_1 o0_2 o0_3 o0_4 o1_0 o1_1 o1_2 o1_3 o1_4 μ)):=by kernel_rfl
theorem uq (o0_0 o0_1 o0_2 o0_3 o0_4 o1_0 o1_1 o1_2 o1_3 o1_4 μ):kS ρ H58 [.block 9,.seq (cA 58 [1,1,1,1,1,1])] [(4,0)] (lD o0_0 o0_1 o0_2 o0_3 o0_4 o1_0 o1_1 o1_2 o1_3 o1_4 μ)=
 some (nz o1_0 o1_1 o1_2 o1_3 o1_4 μ):=by kernel_rfl
theorem uo (x0 x1 o0_0 o0_1 o0_2 o0_3 o0_4 o1_0 o1_1 o1_2 o1_3 o1_4 μ):kS ρ H58 [.block 7,.seq (cA 58 [1,1,1,1,1])] [(4,0)] (rO x0 x1 o0_0 o0_1 o0_2 o0_3 o0_4 o1_0 o1_1 o1_2 o1_3 o1_4 μ)=
 callK (ρ.call 56 [] μ) (fun v94 μ95 =>
 opt (bL v94) fun l98=>
 opt (oC ρ x0 x1 l98 (List.length l98:Int) (0:Int) o0_0 o0_1 o0_2 o0_3 o0_4 o1_0 o1_1 o1_2 o1_3 o1_4 μ95) (kS ρ H58 [.block 9,.seq (cA 58 [1,1,1,1,1,1])] [(4,0)])) (pX yJ):=by kernel_rfl
theorem Oi (x0 x1 o0_0 o0_1 o0_2 o0_3 o0_4 μ):(Fa x0 x1 o0_0 o0_1 o0_2 o0_3 o0_4).sK ρ μ=
 callK (ρ.call 100 [] μ) (fun v81 μ82 =>
 opt (bL v81) fun l85=>
 opt (q5 ρ x0 x1 l85 (List.length l85:Int) (0:Int) o0_0 o0_1 o0_2 o0_3 o0_4 (0:Int) (0:Int) ([]:List UInt8) (0:Int) (7:Int) μ82) (kS ρ H58 [.block 7,.seq (cA 58 [1,1,1,1,1])] [(4,0)])) (pX yJ):=by kernel_rfl
theorem uf (o0_0 o0_1 o0_2 o0_3 o0_4 μ):kB ρ 58 H58 [] (nz o0_0 o0_1 o0_2 o0_3 o0_4 μ)=
 some (.ret (LV.cv (CV.agg [CV.int .i64 o0_0,CV.int .i64 o0_1,CV.str o0_2,CV.int .i64 o0_3,CV.int .i64 o0_4])) μ):=by kernel_rfl
theorem DN (x0 x1 o0_0 o0_1 o0_2 o0_3 o0_4 μ):kB ρ 58 H58 [.block 0,.seq (cA 58 [1,1,1])] (rz x0 x1 o0_0 o0_1 o0_2 o0_3 o0_4 μ)=
 opt (JE ρ x0 x1 o0_0 o0_1 o0_2 o0_3 o0_4 μ) (kB ρ 58 H58 []):=by kernel_rfl
theorem Vp (a b μ):aC E ρ 58 [LV.str a,LV.int .i64 b] μ=
 opt (bn a b) fun y1=>
 callK (ρ.call 96 [LV.int .u8 (y1.toNat : Int)] μ) (fun v2 μ3 =>
 opt (aM v2) fun b6=>
 cond (b6) (
 opt (tk ρ a b b (0:Int) (0:Int) ([]:List UInt8) (0:Int) (0:Int) μ3) (kB ρ 58 H58 [.block 1,.seq (cA 58 [1,1,0,0,1,0,1,1]),.block 0,.seq (cA 58 [1,1,1])])) (
 callK (ρ.call 67 [LV.int .u8 (y1.toNat : Int)] μ3) (fun v28 μ29 =>
 opt (aM v28) fun b32=>
 cond (b32) (
 opt (oz ρ a b (y1.toNat:Int) b32 (0:Int) (0:Int) ([]:List UInt8) (0:Int) (0:Int) μ29) (kB ρ 58 H58 [.block 0,.seq (cA 58 [1,1,1])])) (
 cond (decide ((y1.toNat : Int) = (46 : Int))) (
 cond (decide (IntKind.wrap .i64 (b + (1 : Int)) < (List.length a : Int))) (
 opt (bn a (IntKind.wrap .i64 (b+(1:Int)))) fun y110=>
 callK (ρ.call 67 [LV.int .u8 (y110.toNat : Int)] μ29) (fun v111 μ112 =>
 opt (aM v111) fun b115=>
 opt (oz ρ a b (y1.toNat:Int) b115 (0:Int) (0:Int) ([]:List UInt8) (0:Int) (0:Int) μ112) (kB ρ 58 H58 [.block 0,.seq (cA 58 [1,1,1])])) pP) (
 opt (oz ρ a b (y1.toNat:Int) false (0:Int) (0:Int) ([]:List UInt8) (0:Int) (0:Int) μ29) (kB ρ 58 H58 [.block 0,.seq (cA 58 [1,1,1])]))) (
 opt (oz ρ a b (y1.toNat:Int) false (0:Int) (0:Int) ([]:List UInt8) (0:Int) (0:Int) μ29) (kB ρ 58 H58 [.block 0,.seq (cA 58 [1,1,1])])))) pP)) pP:=by kernel_rfl
theorem SR (a b μ):aC E ρ 65 [LV.str a,LV.bool b] μ=
 cond (b) (
 callK (ρ.call 62 [LV.str a, LV.str ([48] : List UInt8)] μ) (fun v1 μ2 =>
 opt (aL v1) fun s5=>
 cond (decide (s5 = ([] : List UInt8))) (
 some (.ret (LV.str ([48]:List UInt8)) μ2)) (
 some (.ret (LV.str s5) μ2))) pP) (
 callK (ρ.call 63 [LV.str a, LV.str ([48] : List UInt8)] μ) (fun v6 μ7 =>
 opt (aL v6) fun s10=>
 cond (decide (s10 = ([] : List UInt8))) (
 some (.ret (LV.str ([48]:List UInt8)) μ7)) (
 some (.ret (LV.str s10) μ7))) pP):=by kernel_rfl
theorem Vq (a μ):aC E ρ 67 [LV.int .u8 a] μ=
 cond (decide ((48 : Int) ≤ a)) (
 some (.ret (LV.bool (decide (a≤(57:Int)))) μ)) (
 some (.ret (LV.bool false) μ)):=by kernel_rfl
def K6 (x0:List UInt8):SegD:=⟨H69,[(0,0)],cA 69 [1,0,0,0],mS [(0,LV.str x0)] []⟩
def GO (x0:List UInt8)(μ:Mu):=(K6 x0).loop ρ μ
def pU (x0:List UInt8)(μ:Mu):St:= .exit 0 (mS [(0,LV.str x0)] []) μ
theorem yr (x0 μ):(K6 x0).rK ρ μ=
 cond (decide ((1 : Int) < (List.length x0 : Int))) (
 opt (bn x0 (0:Int)) fun y1=>
 cond (decide ((y1.toNat : Int) = (48 : Int))) (
 opt (dk x0 (1:Int) (List.length x0:Int)) fun s2=>
 GO ρ s2 μ) (
 some (pU x0 μ))) (
 some (pU x0 μ)):=by kernel_rfl
theorem IS (x0 μ):kB ρ 69 H69 [.block 0,.seq (cA 69 [1,1])] (pU x0 μ)=
 some (.ret (LV.str x0) μ):=by kernel_rfl
theorem Vr (a μ):aC E ρ 69 [LV.str a] μ=
 opt (GO ρ a μ) (kB ρ 69 H69 [.block 0,.seq (cA 69 [1,1])]):=by kernel_rfl
theorem Vs (a μ):aC E ρ 70 [LV.str a] μ=
 cond (decide (a = ([] : List UInt8))) (
 some (.ret (LV.str ([48]:List UInt8)) μ)) (
 some (.ret (LV.str a) μ)):=by kernel_rfl
def KF (x0:Int):SegD:=⟨H71,[(0,0)],cA 71 [1,0,1,0,1],mS [(0,LV.int .i64 x0)] []⟩
def Pm (x0:Int)(μ:Mu):=(KF x0).seg ρ μ
def uT (x2:List UInt8)(μ:Mu):St:= .ret (mS [(2,LV.str x2)] []) μ
def AP (pv:CV)(μ:Mu):St:= .panic pv (mS [] []) μ
def KG (x0:Int):SegD:=⟨H71,[(2,0)],cA 71 [1,1],mS [(0,LV.int .i64 x0)] []⟩
def Pn (x0:Int)(μ:Mu):=(KG x0).seg ρ μ
def pI (x2:List UInt8)(μ:Mu):St:= .ret (mS [(2,LV.str x2)] []) μ
def AQ (pv:CV)(μ:Mu):St:= .panic pv (mS [] []) μ
theorem Q1 (x0 μ):(KF x0).sK ρ μ=
 callK (ρ.call 71 [LV.int .i64 (IntKind.wrap .i64 (Int.tdiv x0 (10 : Int)))] μ) (fun v6 μ7 =>
 opt (aL v6) fun s10=>
 callK (ρ.call 71 [LV.int .i64 (IntKind.wrap .i64 (0 - Int.tmod x0 (10 : Int)))] μ7) (fun v11 μ12 =>
 opt (aL v11) fun s15=>
 aB (bd (List.length s10 + List.length s15)) (
 some (uT (s10++s15) μ12))) (pX AP)) (pX AP):=by kernel_rfl
theorem Id (x2 μ):kB ρ 71 H71 [.seq (cA 71 [1,1])] (uT x2 μ)=
 some (.ret (LV.str x2) μ):=by kernel_rfl
theorem Q2 (x0 μ):(KG x0).sK ρ μ=
 cond (decide ((9 : Int) < x0)) (
 callK (ρ.call 71 [LV.int .i64 (IntKind.wrap .i64 (Int.tdiv x0 (10 : Int)))] μ) (fun v17 μ18 =>
 opt (aL v17) fun s21=>
 callK (ρ.call 71 [LV.int .i64 (Int.tmod x0 (10 : Int))] μ18) (fun v22 μ23 =>
 opt (aL v22) fun s26=>
 aB (bd (List.length s21 + List.length s26)) (
 some (pI (s21++s26) μ23))) (pX AQ)) (pX AQ)) (
 opt (dk ([48,49,50,51,52,53,54,55,56,57]:List UInt8) x0 (IntKind.wrap .i64 (x0+(1:Int)))) fun s27=>
 some (pI s27 μ)):=by kernel_rfl
theorem Ie (x2 μ):kB ρ 71 H71 [] (pI x2 μ)=
 some (.ret (LV.str x2) μ):=by kernel_rfl
theorem SS (a μ):aC E ρ 71 [LV.int .i64 a] μ=
 cond (decide (a < (0 : Int))) (
 cond (decide ((-10 : Int) < a)) (
 callK (ρ.call 71 [LV.int .i64 (IntKind.wrap .i64 (0 - a))] μ) (fun v1 μ2 =>
 opt (aL v1) fun s5=>
 aB (bd (List.length ([45] : List UInt8) + List.length s5)) (
 some (.ret (LV.str (([45]:List UInt8)++s5)) μ2))) pP) (
 opt (Pm ρ a μ) (kB ρ 71 H71 [.seq (cA 71 [1,1])]))) (
 opt (Pn ρ a μ) (kB ρ 71 H71 [])):=by kernel_rfl
def KH (x0:List CV):SegD:=⟨H72,[(2,0),(3,0)],cA 72 [1,1],mS [(0,LV.cv (CV.sl x0))] []⟩
def Po (x0:List CV)(μ:Mu):=(KH x0).seg ρ μ
def K7 (x10:List CV)(x11 x12:Int):SegD:=⟨H72,[],cA 72 [1,1,0,1,0,0],mS [(10,LV.cv (CV.sl x10)),(11,LV.int .i64 x11),(12,LV.int .i64 x12)] []⟩
def GP (x10:List CV)(x11 x12:Int)(μ:Mu):=(K7 x10 x11 x12).loop ρ μ
def vo (x2 x3:Int)(μ:Mu):St:= .ret (mS [(2,LV.int .i64 x2),(3,LV.int .i64 x3)] []) μ
def Nn (pv:CV)(μ:Mu):St:= .panic pv (mS [] []) μ
def vp (μ:Mu):St:= .exit 0 (mS [] []) μ
def pJ (x2 x3:Int)(μ:Mu):St:= .ret (mS [(2,LV.int .i64 x2),(3,LV.int .i64 x3)] []) μ
theorem F6 (x10 x11 x12 μ):(K7 x10 x11 x12).rK ρ μ=
 cond (decide (x12 < x11)) (
 opt (bY x10 x12) fun c1=>
 cT (LV.cv c1) fun n2 n3 s4=>
 callK (ρ.call 14 [LV.cv (CV.agg [CV.int .i64 n2, CV.int .i64 n3, CV.str s4])] μ) (fun v5 μ6 =>
 opt (aF .i64 v5) fun n9=>
 cond (!decide (n9 = (0 : Int))) (
 some (vo x12 n9 μ6)) (
 GP ρ x10 x11 (IntKind.wrap .i64 (x12+(1:Int))) μ6)) (pX Nn)) (
 some (vp μ)):=by kernel_rfl
theorem IT (x2 x3 μ):kS ρ H72 [.block 0,.seq (cA 72 [1,1,1])] [(2,0),(3,0)] (vo x2 x3 μ)=
 some (pJ x2 x3 μ):=by kernel_rfl
theorem IU (μ):kS ρ H72 [.block 0,.seq (cA 72 [1,1,1])] [(2,0),(3,0)] (vp μ)=
 some (pJ (0:Int) (0:Int) μ):=by kernel_rfl
theorem Q3 (x0 μ):(KH x0).sK ρ μ=
 opt (GP ρ x0 (List.length x0:Int) (0:Int) μ) (kS ρ H72 [.block 0,.seq (cA 72 [1,1,1])] [(2,0),(3,0)]):=by kernel_rfl
theorem If (x2 x3 μ):kB ρ 72 H72 [] (pJ x2 x3 μ)=
 some (.ret (LV.ltup [LV.int .i64 x2,LV.int .i64 x3]) μ):=by kernel_rfl
theorem Vt (a μ):aC E ρ 72 [LV.cv (CV.sl a)] μ=
 cond (decide ((300 : Int) < (List.length a : Int))) (
 some (.ret (LV.ltup [LV.int .i64 (0:Int),LV.int .i64 (8:Int)]) μ)) (
 opt (Po ρ a μ) (kB ρ 72 H72 [])):=by kernel_rfl
def KI (o0_0 o0_1:Int)(o0_2:List UInt8)(o1_0 o1_1:Int)(o1_2:List UInt8):SegD:=⟨H73,[(4,0)],cA 73 [1,1],mS [(2,LV.loc 0 0),(3,LV.loc 1 0)] [Ob.cells [LV.int .i64 o0_0,LV.int .i64 o0_1,LV.str o0_2],Ob.cells [LV.int .i64 o1_0,LV.int .i64 o1_1,LV.str o1_2]]⟩
def pk (o0_0 o0_1:Int)(o0_2:List UInt8)(o1_0 o1_1:Int)(o1_2:List UInt8)(μ:Mu):=(KI o0_0 o0_1 o0_2 o1_0 o1_1 o1_2).seg ρ μ
def kw (x4:Bool)(μ:Mu):St:= .ret (mS [(4,LV.bool x4)] []) μ
def Ng (pv:CV)(μ:Mu):St:= .panic pv (mS [] []) μ
theorem Q4 (o0_0 o0_1 o0_2 o1_0 o1_1 o1_2 μ):(KI o0_0 o0_1 o0_2 o1_0 o1_1 o1_2).sK ρ μ=
 aB (bd (List.length o0_2 + List.length o1_2)) (
 callK (ρ.call 78 [LV.str (o0_2 ++ o1_2), LV.bool false] μ) (fun v1 μ2 =>
 opt (aS v1) fun xs5=>
 opt (aA xs5) fun q6=>
 opt (dm q6.1) fun c7=>
 opt (aA q6.2) fun q8=>
 opt (aF .i64 q8.1) fun n9=>
 opt (aA q8.2) fun q10=>
 opt (aF .i64 q10.1) fun n11=>
 opt (aO q10.2) fun u12=>
 cond (!decide (n11 = (0 : Int))) (
 some (kw true μ2)) (
 cond (!decide (n9 = (2 : Int))) (
 some (kw true μ2)) (
 opt (jZ (LV.cv c7)) fun b13=>
 aB (!b13) (
 opt (gD (LV.cv (kY c7))) fun cs14=>
 opt (aA cs14) fun q15=>
 opt (aL (LV.cv q15.1)) fun s16=>
 opt (aA q15.2) fun q17=>
 opt (aM (LV.cv q17.1)) fun b18=>
 opt (aA q17.2) fun q19=>
 opt (bL (LV.cv q19.1)) fun l20=>
 opt (aA q19.2) fun q21=>
 opt (bL (LV.cv q21.1)) fun l22=>
 opt (aO q21.2) fun u23=>
 opt (bY l20 (0:Int)) fun c24=>
 cT (LV.cv c24) fun n25 n26 s27=>
 cond (!(decide (n25 = o0_0) && (decide (n26 = o0_1) && (decide (s27 = o0_2) && true)))) (
 some (kw true μ2)) (
 opt (jZ (LV.cv c7)) fun b28=>
 aB (!b28) (
 opt (gD (LV.cv (kY c7))) fun cs29=>
 opt (aA cs29) fun q30=>
 opt (aL (LV.cv q30.1)) fun s31=>
 opt (aA q30.2) fun q32=>
 opt (aM (LV.cv q32.1)) fun b33=>
 opt (aA q32.2) fun q34=>
 opt (bL (LV.cv q34.1)) fun l35=>
 opt (aA q34.2) fun q36=>
 opt (bL (LV.cv q36.1)) fun l37=>
 opt (aO q36.2) fun u38=>
 opt (bY l35 (1:Int)) fun c39=>
 cT (LV.cv c39) fun n40 n41 s42=>
 some (kw (!(decide (n40=o1_0)&&(decide (n41=o1_1)&&(decide (s42=o1_2)&&true)))) μ2))))))) (pX Ng)):=by kernel_rfl
theorem Ig (x4 μ):kB ρ 73 H73 [] (kw x4 μ)=
 some (.ret (LV.bool x4) μ):=by kernel_rfl
theorem Vu (a_0 a_1 a_2 b_0 b_1 b_2 μ):aC E ρ 73 [LV.cv (CV.agg [CV.int .i64 a_0,CV.int .i64 a_1,CV.str a_2]),LV.cv (CV.agg [CV.int .i64 b_0,CV.int .i64 b_1,CV.str b_2])] μ=
 cond (decide (a_0 = (1 : Int))) (
 cond (decide (a_1 = (0 : Int))) (
 cond (decide (b_2 = ([69] : List UInt8))) (
 some (.ret (LV.bool true) μ)) (
 cond (decide (b_2 = ([68] : List UInt8))) (
 some (.ret (LV.bool true) μ)) (
 opt (pk ρ a_0 a_1 a_2 b_0 b_1 b_2 μ) (kB ρ 73 H73 [])))) (
 cond (decide (a_1 = (1 : Int))) (
 callK (ρ.call 115 [LV.str a_2, LV.str ([69] : List UInt8)] μ) (fun v44 μ45 =>
 opt (aM v44) fun b48=>
 cond (!b48) (
 cond (decide (b_2 = ([69] : List UInt8))) (
 some (.ret (LV.bool true) μ45)) (
 cond (decide (b_2 = ([68] : List UInt8))) (
 some (.ret (LV.bool true) μ45)) (
 opt (pk ρ a_0 a_1 a_2 b_0 b_1 b_2 μ45) (kB ρ 73 H73 [])))) (
 opt (pk ρ a_0 a_1 a_2 b_0 b_1 b_2 μ45) (kB ρ 73 H73 []))) pP) (
 opt (pk ρ a_0 a_1 a_2 b_0 b_1 b_2 μ) (kB ρ 73 H73 [])))) (
 opt (pk ρ a_0 a_1 a_2 b_0 b_1 b_2 μ) (kB ρ 73 H73 [])):=by kernel_rfl
theorem Vv (al ai b μ):aC E ρ 74 [LV.cv (CV.tref al ai 103 2),LV.int .u8 b] μ=
 callK (ρ.call 116 [LV.cv (CV.tref al ai 103 2)] μ) (fun v1 μ2 =>
 opt (aS v1) fun xs5=>
 opt (aO xs5) fun u6=>
 opt (ie E.P 101 (a8 μ2 al ai) 1) fun r7=>
 opt (eX r7.1) fun l8=>
 aB (fL 1 l8 [CV.int .u8 b]) (
 aB (bN (al + 1) (l8 ++ [CV.int .u8 b])) (
 opt (bI E.P 101 (a8 (bD μ2 al ai r7.2) al ai) 1 (LV.osl (l8++[CV.int .u8 b]))) fun o9=>
 some (.ret (LV.cv (CV.v (.nilIface))) (bD (bD μ2 al ai r7.2) al ai o9))))) pP:=by kernel_rfl
theorem Vw (al ai b μ):aC E ρ 75 [LV.cv (CV.tref al ai 103 2),LV.str b] μ=
 callK (ρ.call 116 [LV.cv (CV.tref al ai 103 2)] μ) (fun v1 μ2 =>
 opt (aS v1) fun xs5=>
 opt (aO xs5) fun u6=>
 opt (ie E.P 101 (a8 μ2 al ai) 1) fun r7=>
 opt (eX r7.1) fun l8=>
 aB ((Nat.beq 1 1 && bd (List.length l8 + List.length b)) && fK 1 l8) (
 aB (bN (al + 1) (l8 ++ aW b)) (
 opt (bI E.P 101 (a8 (bD μ2 al ai r7.2) al ai) 1 (LV.osl (l8++aW b))) fun o9=>
 some (.ret (LV.ltup [LV.int .i64 (List.length b:Int),LV.cv (CV.v (.nilIface))]) (bD (bD μ2 al ai r7.2) al ai o9))))) pP:=by kernel_rfl
theorem Vx (al ai μ):aC E ρ 76 [LV.cv (CV.tref al ai 103 2)] μ=
 opt (bB E.P 101 (a8 μ al ai) 1) fun v1=>
 opt (bL v1) fun l2=>
 some (.ret (LV.int .i64 (List.length l2:Int)) μ):=by kernel_rfl
def KJ (o0_0:List UInt8)(o0_1:Bool):SegD:=⟨H78,[(4,0),(5,0),(6,0)],cA 78 [1,1,1],mS [(7,LV.loc 0 0)] [Ob.cells [LV.str o0_0,LV.bool o0_1,LV.cv (CV.v (.slice none 0 0)),LV.cv (CV.v (.slice none 0 0))]]⟩
def Pp (o0_0:List UInt8)(o0_1:Bool)(μ:Mu):=(KJ o0_0 o0_1).seg ρ μ
def KK (x9 x10:Int)(lam:Lam):SegD:=⟨H78,[(7,0)],cA 78 [1,1,1,0,1],mS [(7,LV.loc 0 0),(9,LV.int .i64 x9),(10,LV.int .i64 x10)] lam true⟩
def Gz (x9 x10:Int)(lam:Lam)(μ:Mu):=(KK x9 x10 lam).seg ρ μ
def uV (x4_0:List UInt8)(x4_1:Bool)(x4_2 x4_3:List CV)(x5 x6:Int)(μ:Mu):St:= .ret (mS [(4,LV.cv (CV.view [CV.str x4_0,CV.bool x4_1,CV.sl x4_2,CV.sl x4_3])),(5,LV.int .i64 x5),(6,LV.int .i64 x6)] [Ob.dead] true) μ
def uW (o0_0:List UInt8)(o0_1:Bool)(o0_2 o0_3:List CV)(μ:Mu):St:= .norm (mS [(7,LV.loc 0 0)] [Ob.cells [LV.str o0_0,LV.bool o0_1,LV.osl o0_2,LV.osl o0_3]] true) μ
def pK (x4_0:List UInt8)(x4_1:Bool)(x4_2 x4_3:List CV)(x5 x6:Int)(μ:Mu):St:= .ret (mS [(4,LV.cv (CV.view [CV.str x4_0,CV.bool x4_1,CV.sl x4_2,CV.sl x4_3])),(5,LV.int .i64 x5),(6,LV.int .i64 x6)] [Ob.dead] true) μ
def KL (lam:Lam):SegD:=⟨H78,[(4,0),(5,0),(6,0)],cA 78 [1,1,1,1],mS [(7,LV.loc 0 0)] lam true⟩
def GA (lam:Lam)(μ:Mu):=(KL lam).seg ρ μ
def uX (x4_0:List UInt8)(x4_1:Bool)(x4_2 x4_3:List CV)(x5 x6:Int)(μ:Mu):St:= .ret (mS [(4,LV.cv (CV.view [CV.str x4_0,CV.bool x4_1,CV.sl x4_2,CV.sl x4_3])),(5,LV.int .i64 x5),(6,LV.int .i64 x6)] [Ob.dead] true) μ
def Fb (x7_0:List UInt8)(x7_1:Bool)(x7_2 x7_3:List CV)(lam:Lam):SegD:=⟨H78,[(4,0),(5,0),(6,0)],cA 78 [1,1,1,1,1],mS [(7,LV.cv (CV.view [CV.str x7_0,CV.bool x7_1,CV.sl x7_2,CV.sl x7_3]))] lam true⟩
def JF (x7_0:List UInt8)(x7_1:Bool)(x7_2 x7_3:List CV)(lam:Lam)(μ:Mu):=(Fb x7_0 x7_1 x7_2 x7_3 lam).seg ρ μ
def rA (x4_0:List UInt8)(x4_1:Bool)(x4_2 x4_3:List CV)(x5 x6:Int)(o0:Ob)(μ:Mu):St:= .ret (mS [(4,LV.cv (CV.view [CV.str x4_0,CV.bool x4_1,CV.sl x4_2,CV.sl x4_3])),(5,LV.int .i64 x5),(6,LV.int .i64 x6)] [o0] true) μ
def uY (x4_0:List UInt8)(x4_1:Bool)(x4_2 x4_3:List CV)(x5 x6:Int)(o0:Ob)(μ:Mu):St:= .ret (mS [(4,LV.cv (CV.view [CV.str x4_0,CV.bool x4_1,CV.sl x4_2,CV.sl x4_3])),(5,LV.int .i64 x5),(6,LV.int .i64 x6)] [o0] true) μ
def uU (x4_0:List UInt8)(x4_1:Bool)(x4_2 x4_3:List CV)(x5 x6:Int)(o0:Ob)(μ:Mu):St:= .ret (mS [(4,LV.cv (CV.view [CV.str x4_0,CV.bool x4_1,CV.sl x4_2,CV.sl x4_3])),(5,LV.int .i64 x5),(6,LV.int .i64 x6)] [o0] true) μ
def Nh (pv:CV)(lam:Lam)(μ:Mu):St:= .panic pv (mS [] lam true) μ
theorem FQ (x9 x10:Int)(o0_0:List UInt8)(o0_1:Bool)(o0_2 o0_3:List CV)(μ:Mu):(KK x9 x10 [Ob.cells [LV.str o0_0,LV.bool o0_1,LV.osl o0_2,LV.osl o0_3]]).sK ρ μ=
 cond (!decide (x10 = (0 : Int))) (
 some (uV o0_0 o0_1 o0_2 o0_3 x9 x10 μ)) (
 some (uW o0_0 o0_1 o0_2 o0_3 μ)):=by kernel_rfl
theorem Ij (x4_0 x4_1 x4_2 x4_3 x5 x6 μ):kS ρ H78 [.seq (cA 78 [1,1,1,1])] [(4,0),(5,0),(6,0)] (uV x4_0 x4_1 x4_2 x4_3 x5 x6 μ)=
 some (pK x4_0 x4_1 x4_2 x4_3 x5 x6 μ):=by kernel_rfl
theorem Oj (x7_0:List UInt8)(x7_1:Bool)(x7_2 x7_3:List CV)(o0:Ob)(μ:Mu):(Fb x7_0 x7_1 x7_2 x7_3 [o0]).sK ρ μ=
 some (rA x7_0 x7_1 x7_2 x7_3 (List.length x7_2:Int) (0:Int) o0 μ):=by kernel_rfl
theorem DO (x4_0 x4_1 x4_2 x4_3 x5 x6 o0 μ):kS ρ H78 [] [(4,0),(5,0),(6,0)] (rA x4_0 x4_1 x4_2 x4_3 x5 x6 o0 μ)=
 some (uY x4_0 x4_1 x4_2 x4_3 x5 x6 o0 μ):=by kernel_rfl
theorem FR (o0_0:List UInt8)(o0_1:Bool)(o0_2 o0_3:List CV)(μ:Mu):(KL [Ob.cells [LV.str o0_0,LV.bool o0_1,LV.osl o0_2,LV.osl o0_3]]).sK ρ μ=
 cond (decide ((300 : Int) < (List.length o0_2 : Int))) (
 some (uX o0_0 o0_1 o0_2 o0_3 (0:Int) (8:Int) μ)) (
 opt (JF ρ o0_0 o0_1 o0_2 o0_3 [Ob.dead] μ) (kS ρ H78 [] [(4,0),(5,0),(6,0)])):=by kernel_rfl
theorem Il (x4_0 x4_1 x4_2 x4_3 x5 x6 μ):kS ρ H78 [] [(4,0),(5,0),(6,0)] (uX x4_0 x4_1 x4_2 x4_3 x5 x6 μ)=
 some (pK x4_0 x4_1 x4_2 x4_3 x5 x6 μ):=by kernel_rfl
theorem Im (x4_0 x4_1 x4_2 x4_3 x5 x6 o0 μ):kS ρ H78 [] [(4,0),(5,0),(6,0)] (uY x4_0 x4_1 x4_2 x4_3 x5 x6 o0 μ)=
 some (uU x4_0 x4_1 x4_2 x4_3 x5 x6 o0 μ):=by kernel_rfl
theorem Ik (o0_0 o0_1 o0_2 o0_3 μ):kS ρ H78 [.seq (cA 78 [1,1,1,1])] [(4,0),(5,0),(6,0)] (uW o0_0 o0_1 o0_2 o0_3 μ)=
 opt (GA ρ [Ob.cells [LV.str o0_0,LV.bool o0_1,LV.osl o0_2,LV.osl o0_3]] μ) (kS ρ H78 [] [(4,0),(5,0),(6,0)]):=by kernel_rfl
theorem Q5 (o0_0 o0_1 μ):(KJ o0_0 o0_1).sK ρ μ=
 callK (ρ.call 118 [LV.cv (CV.ref (List.length μ) 0 0)] (μ ++ [[Ob.cells [LV.str o0_0, LV.bool o0_1, LV.cv (CV.v (.slice none 0 0)), LV.cv (CV.v (.slice none 0 0))]]])) (fun v6 μ7 =>
 opt (dz μ7) fun q8=>
 opt (aS v6) fun xs12=>
 opt (aA xs12) fun q13=>
 opt (aF .i64 q13.1) fun n14=>
 opt (aA q13.2) fun q15=>
 opt (aF .i64 q15.1) fun n16=>
 opt (aO q15.2) fun u17=>
 ol [(0,[0,0,1,1])] q8.2 fun lam18=>
 opt (Gz ρ n14 n16 lam18 q8.1) (kS ρ H78 [.seq (cA 78 [1,1,1,1])] [(4,0),(5,0),(6,0)])) (fun v10 μ9=>
 opt (dz μ9) fun q11=>
 some (Nh v10 q11.2 q11.1)):=by kernel_rfl
theorem Ih (x4_0 x4_1 x4_2 x4_3 x5 x6 μ):kB ρ 78 H78 [] (pK x4_0 x4_1 x4_2 x4_3 x5 x6 μ)=
 aB (fD (List.length μ) (LV.ltup [LV.cv (CV.view [CV.str x4_0,CV.bool x4_1,CV.sl x4_2,CV.sl x4_3]),LV.int .i64 x5,LV.int .i64 x6])) (some (.ret (LV.ltup [LV.cv (CV.view [CV.str x4_0,CV.bool x4_1,CV.sl x4_2,CV.sl x4_3]),LV.int .i64 x5,LV.int .i64 x6]) μ)):=by kernel_rfl
theorem Ii (x4_0 x4_1 x4_2 x4_3 x5 x6 o0 μ):kB ρ 78 H78 [] (uU x4_0 x4_1 x4_2 x4_3 x5 x6 o0 μ)=
 aB (fD (List.length μ) (LV.ltup [LV.cv (CV.view [CV.str x4_0,CV.bool x4_1,CV.sl x4_2,CV.sl x4_3]),LV.int .i64 x5,LV.int .i64 x6])) (some (.ret (LV.ltup [LV.cv (CV.view [CV.str x4_0,CV.bool x4_1,CV.sl x4_2,CV.sl x4_3]),LV.int .i64 x5,LV.int .i64 x6]) μ)):=by kernel_rfl
theorem Vy (a b μ):aC E ρ 78 [LV.str a,LV.bool b] μ=
 callK (ρ.call 117 [LV.str a] μ) (fun v1 μ2 =>
 opt (aF .i64 v1) fun n5=>
 cond (!decide (n5 = (0 : Int))) (
 some (.ret (LV.ltup [LV.cv (CV.view [CV.str a,CV.bool b,CV.v (.slice none 0 0),CV.v (.slice none 0 0)]),LV.int .i64 (0:Int),LV.int .i64 n5]) μ2)) (
 opt (Pp ρ a b μ2) (kB ρ 78 H78 []))) pP:=by kernel_rfl
def K8 (x0:List UInt8)(x5:Int)(x6:List UInt8)(x7 o0_0 o0_1:Int)(o0_2:List UInt8)(o0_3 o0_4:Int):SegD:=⟨H81,[(4,0)],cA 81 [1,1,1,0,1,0,0],mS [(0,LV.str x0),(4,LV.loc 0 0),(5,LV.int .u8 x5),(6,LV.str x6),(7,LV.int .i64 x7)] [Ob.cells [LV.int .i64 o0_0,LV.int .i64 o0_1,LV.str o0_2,LV.int .i64 o0_3,LV.int .i64 o0_4]]⟩
def zX (x0:List UInt8)(x5:Int)(x6:List UInt8)(x7 o0_0 o0_1:Int)(o0_2:List UInt8)(o0_3 o0_4:Int)(μ:Mu):=(K8 x0 x5 x6 x7 o0_0 o0_1 o0_2 o0_3 o0_4).loop ρ μ
def KM (x0:List UInt8)(x5:Int)(x6:List UInt8)(x7 o0_0 o0_1:Int)(o0_2:List UInt8)(o0_3 o0_4:Int):SegD:=⟨H81,[(0,0),(4,0),(5,0),(6,0),(7,0)],cA 81 [1,1,1,0,1,0,0,1,0,0,1],mS [(0,LV.str x0),(4,LV.loc 0 0),(5,LV.int .u8 x5),(6,LV.str x6),(7,LV.int .i64 x7)] [Ob.cells [LV.int .i64 o0_0,LV.int .i64 o0_1,LV.str o0_2,LV.int .i64 o0_3,LV.int .i64 o0_4]]⟩
def GB (x0:List UInt8)(x5:Int)(x6:List UInt8)(x7 o0_0 o0_1:Int)(o0_2:List UInt8)(o0_3 o0_4:Int)(μ:Mu):=(KM x0 x5 x6 x7 o0_0 o0_1 o0_2 o0_3 o0_4).seg ρ μ
def uZ (x0:List UInt8)(x5:Int)(x6:List UInt8)(x7 o0_0 o0_1:Int)(o0_2:List UInt8)(o0_3 o0_4:Int)(μ:Mu):St:= .exit 1 (mS [(0,LV.str x0),(4,LV.loc 0 0),(5,LV.int .u8 x5),(6,LV.str x6),(7,LV.int .i64 x7)] [Ob.cells [LV.int .i64 o0_0,LV.int .i64 o0_1,LV.str o0_2,LV.int .i64 o0_3,LV.int .i64 o0_4]]) μ
def Fc (x6:List UInt8)(x7 o0_0 o0_1:Int)(o0_2:List UInt8)(o0_3 o0_4:Int):SegD:=⟨H81,[(0,0),(4,0),(5,0),(6,0),(7,0)],cA 81 [1,1,1,0,1,0,0,1,0,0,1,1],mS [(4,LV.loc 0 0),(6,LV.str x6),(7,LV.int .i64 x7)] [Ob.cells [LV.int .i64 o0_0,LV.int .i64 o0_1,LV.str o0_2,LV.int .i64 o0_3,LV.int .i64 o0_4]]⟩
def wi (x6:List UInt8)(x7 o0_0 o0_1:Int)(o0_2:List UInt8)(o0_3 o0_4:Int)(μ:Mu):=(Fc x6 x7 o0_0 o0_1 o0_2 o0_3 o0_4).seg ρ μ
def nA (o0_0 o0_1:Int)(o0_2:List UInt8)(o0_3 o0_4:Int)(μ:Mu):St:= .ret (mS [(4,LV.loc 0 0)] [Ob.cells [LV.int .i64 o0_0,LV.int .i64 o0_1,LV.str o0_2,LV.int .i64 o0_3,LV.int .i64 o0_4]]) μ
def Fd (x6:List UInt8)(x7 o0_0 o0_1:Int)(o0_2:List UInt8)(o0_3 o0_4:Int):SegD:=⟨H81,[(0,0),(4,0),(5,0),(6,0),(7,0)],cA 81 [1,1,1,0,1,0,0,1,0,0,1,1,1],mS [(4,LV.loc 0 0),(6,LV.str x6),(7,LV.int .i64 x7)] [Ob.cells [LV.int .i64 o0_0,LV.int .i64 o0_1,LV.str o0_2,LV.int .i64 o0_3,LV.int .i64 o0_4]]⟩
def JG (x6:List UInt8)(x7 o0_0 o0_1:Int)(o0_2:List UInt8)(o0_3 o0_4:Int)(μ:Mu):=(Fd x6 x7 o0_0 o0_1 o0_2 o0_3 o0_4).seg ρ μ
def rB (o0_0 o0_1:Int)(o0_2:List UInt8)(o0_3 o0_4:Int)(μ:Mu):St:= .ret (mS [(4,LV.loc 0 0)] [Ob.cells [LV.int .i64 o0_0,LV.int .i64 o0_1,LV.str o0_2,LV.int .i64 o0_3,LV.int .i64 o0_4]]) μ
def JX (pv:CV)(μ:Mu):St:= .panic pv (mS [] []) μ
def pL (o0_0 o0_1:Int)(o0_2:List UInt8)(o0_3 o0_4:Int)(μ:Mu):St:= .ret (mS [(4,LV.loc 0 0)] [Ob.cells [LV.int .i64 o0_0,LV.int .i64 o0_1,LV.str o0_2,LV.int .i64 o0_3,LV.int .i64 o0_4]]) μ
def vq (o0_0 o0_1:Int)(o0_2:List UInt8)(o0_3 o0_4:Int)(μ:Mu):St:= .ret (mS [(4,LV.loc 0 0)] [Ob.cells [LV.int .i64 o0_0,LV.int .i64 o0_1,LV.str o0_2,LV.int .i64 o0_3,LV.int .i64 o0_4]]) μ
def vt (o0_0 o0_1:Int)(o0_2:List UInt8)(o0_3 o0_4:Int)(μ:Mu):St:= .exit 0 (mS [(4,LV.loc 0 0)] [Ob.cells [LV.int .i64 o0_0,LV.int .i64 o0_1,LV.str o0_2,LV.int .i64 o0_3,LV.int .i64 o0_4]]) μ
theorem Ol (x6 x7 o0_0 o0_1 o0_2 o0_3 o0_4 μ):(Fd x6 x7 o0_0 o0_1 o0_2 o0_3 o0_4).sK ρ μ=
 callK (ρ.call 42 [LV.str x6] μ) (fun v6 μ7 =>
 opt (aL v6) fun s10=>
 some (rB (1:Int) (6:Int) s10 (IntKind.wrap .i64 (x7+(1:Int))) (0:Int) μ7)) (pX JX):=by kernel_rfl
theorem DP (o0_0 o0_1 o0_2 o0_3 o0_4 μ):kS ρ H81 [] [(0,0),(4,0),(5,0),(6,0),(7,0)] (rB o0_0 o0_1 o0_2 o0_3 o0_4 μ)=
 some (nA o0_0 o0_1 o0_2 o0_3 o0_4 μ):=by kernel_rfl
theorem Ok (x6 x7 o0_0 o0_1 o0_2 o0_3 o0_4 μ):(Fc x6 x7 o0_0 o0_1 o0_2 o0_3 o0_4).sK ρ μ=
 cond (decide ((60 : Int) < (List.length x6 : Int))) (
 some (nA (0:Int) (0:Int) ([]:List UInt8) (0:Int) (8:Int) μ)) (
 opt (JG ρ x6 x7 o0_0 o0_1 o0_2 o0_3 o0_4 μ) (kS ρ H81 [] [(0,0),(4,0),(5,0),(6,0),(7,0)])):=by kernel_rfl
theorem ug (o0_0 o0_1 o0_2 o0_3 o0_4 μ):kS ρ H81 [] [(0,0),(4,0),(5,0),(6,0),(7,0)] (nA o0_0 o0_1 o0_2 o0_3 o0_4 μ)=
 some (pL o0_0 o0_1 o0_2 o0_3 o0_4 μ):=by kernel_rfl
theorem FS (x0 x5 x6 x7 o0_0 o0_1 o0_2 o0_3 o0_4 μ):(KM x0 x5 x6 x7 o0_0 o0_1 o0_2 o0_3 o0_4).sK ρ μ=
 cond (decide (IntKind.wrap .i64 (x7 + (1 : Int)) < (List.length x0 : Int))) (
 opt (bn x0 (IntKind.wrap .i64 (x7+(1:Int)))) fun y4=>
 cond (decide ((y4.toNat : Int) = x5)) (
 opt (dk x0 x7 (IntKind.wrap .i64 (x7+(1:Int)))) fun s5=>
 aB (bd (List.length x6 + List.length s5)) (
 some (uZ x0 x5 (x6++s5) (IntKind.wrap .i64 (x7+(1:Int))) o0_0 o0_1 o0_2 o0_3 o0_4 μ))) (
 opt (wi ρ x6 x7 o0_0 o0_1 o0_2 o0_3 o0_4 μ) (kS ρ H81 [] [(0,0),(4,0),(5,0),(6,0),(7,0)]))) (
 opt (wi ρ x6 x7 o0_0 o0_1 o0_2 o0_3 o0_4 μ) (kS ρ H81 [] [(0,0),(4,0),(5,0),(6,0),(7,0)])):=by kernel_rfl
theorem In (x0 x5 x6 x7 o0_0 o0_1 o0_2 o0_3 o0_4 μ):kR ρ H81 [.block 1,.seq (cA 81 [1,1,1,0,1,0,0,1,1])] [(4,0)] (cA 81 [1,1,1,0,1,0,0]) (uZ x0 x5 x6 x7 o0_0 o0_1 o0_2 o0_3 o0_4 μ)=
 zX ρ x0 x5 x6 (IntKind.wrap .i64 (x7+(1:Int))) o0_0 o0_1 o0_2 o0_3 o0_4 μ:=by kernel_rfl
theorem xa (o0_0 o0_1 o0_2 o0_3 o0_4 μ):kR ρ H81 [.block 1,.seq (cA 81 [1,1,1,0,1,0,0,1,1])] [(4,0)] (cA 81 [1,1,1,0,1,0,0]) (pL o0_0 o0_1 o0_2 o0_3 o0_4 μ)=
 some (vq o0_0 o0_1 o0_2 o0_3 o0_4 μ):=by kernel_rfl
theorem F7 (x0 x5 x6 x7 o0_0 o0_1 o0_2 o0_3 o0_4 μ):(K8 x0 x5 x6 x7 o0_0 o0_1 o0_2 o0_3 o0_4).rK ρ μ=
 cond (decide (x7 < (List.length x0 : Int))) (
 opt (bn x0 x7) fun y2=>
 cond (!decide ((y2.toNat : Int) = x5)) (
 opt (dk x0 x7 (IntKind.wrap .i64 (x7+(1:Int)))) fun s3=>
 aB (bd (List.length x6 + List.length s3)) (
 zX ρ x0 x5 (x6++s3) (IntKind.wrap .i64 (x7+(1:Int))) o0_0 o0_1 o0_2 o0_3 o0_4 μ)) (
 opt (GB ρ x0 x5 x6 x7 o0_0 o0_1 o0_2 o0_3 o0_4 μ) (kR ρ H81 [.block 1,.seq (cA 81 [1,1,1,0,1,0,0,1,1])] [(4,0)] (cA 81 [1,1,1,0,1,0,0])))) (
 some (vt o0_0 o0_1 o0_2 o0_3 o0_4 μ)):=by kernel_rfl
theorem xb (o0_0 o0_1 o0_2 o0_3 o0_4 μ):kB ρ 81 H81 [.block 0,.seq (cA 81 [1,1,1,1])] (vq o0_0 o0_1 o0_2 o0_3 o0_4 μ)=
 some (.ret (LV.cv (CV.agg [CV.int .i64 o0_0,CV.int .i64 o0_1,CV.str o0_2,CV.int .i64 o0_3,CV.int .i64 o0_4])) μ):=by kernel_rfl
theorem IV (o0_0 o0_1 o0_2 o0_3 o0_4 μ):kB ρ 81 H81 [.block 0,.seq (cA 81 [1,1,1,1])] (vt o0_0 o0_1 o0_2 o0_3 o0_4 μ)=
 some (.ret (LV.cv (CV.agg [CV.int .i64 (0:Int),CV.int .i64 (0:Int),CV.str ([]:List UInt8),CV.int .i64 (0:Int),CV.int .i64 (7:Int)])) μ):=by kernel_rfl
theorem Vz (a b μ):aC E ρ 81 [LV.str a,LV.int .i64 b] μ=
 opt (bn a b) fun y1=>
 opt (zX ρ a (y1.toNat:Int) ([]:List UInt8) (IntKind.wrap .i64 (b+(1:Int))) (0:Int) (0:Int) ([]:List UInt8) (0:Int) (0:Int) μ) (kB ρ 81 H81 [.block 0,.seq (cA 81 [1,1,1,1])]):=by kernel_rfl
def KN (o0_0 o0_1:Int)(o0_2:List UInt8):SegD:=⟨H83,[(2,0)],cA 83 [1,1],mS [(1,LV.loc 0 0)] [Ob.cells [LV.int .i64 o0_0,LV.int .i64 o0_1,LV.str o0_2]]⟩
def zS (o0_0 o0_1:Int)(o0_2:List UInt8)(μ:Mu):=(KN o0_0 o0_1 o0_2).seg ρ μ
def K9 (x3 o0_0 o0_1:Int)(o0_2:List UInt8):SegD:=⟨H83,[],cA 83 [1,1,0,1,0,0],mS [(1,LV.loc 0 0),(3,LV.int .i64 x3)] [Ob.cells [LV.int .i64 o0_0,LV.int .i64 o0_1,LV.str o0_2]]⟩
def GQ (x3 o0_0 o0_1:Int)(o0_2:List UInt8)(μ:Mu):=(K9 x3 o0_0 o0_1 o0_2).loop ρ μ
def vu (x2:Bool)(μ:Mu):St:= .ret (mS [(2,LV.bool x2)] []) μ
def vv (μ:Mu):St:= .exit 0 (mS [] []) μ
def pM (x2:Bool)(μ:Mu):St:= .ret (mS [(2,LV.bool x2)] []) μ
theorem F8 (x3 o0_0 o0_1 o0_2 μ):(K9 x3 o0_0 o0_1 o0_2).rK ρ μ=
 cond (decide (x3 < (List.length o0_2 : Int))) (
 opt (bn o0_2 x3) fun y1=>
 cond (decide ((y1.toNat : Int) = (69 : Int))) (
 some (vu false μ)) (
 GQ ρ (IntKind.wrap .i64 (x3+(1:Int))) o0_0 o0_1 o0_2 μ)) (
 some (vv μ)):=by kernel_rfl
theorem IW (x2 μ):kS ρ H83 [.block 0,.seq (cA 83 [1,1,1])] [(2,0)] (vu x2 μ)=
 some (pM x2 μ):=by kernel_rfl
theorem IX (μ):kS ρ H83 [.block 0,.seq (cA 83 [1,1,1])] [(2,0)] (vv μ)=
 some (pM true μ):=by kernel_rfl
theorem Q6 (o0_0 o0_1 o0_2 μ):(KN o0_0 o0_1 o0_2).sK ρ μ=
 opt (GQ ρ (0:Int) o0_0 o0_1 o0_2 μ) (kS ρ H83 [.block 0,.seq (cA 83 [1,1,1])] [(2,0)]):=by kernel_rfl
theorem Io (x2 μ):kB ρ 83 H83 [] (pM x2 μ)=
 some (.ret (LV.bool x2) μ):=by kernel_rfl
theorem VA (a_0 a_1 a_2 μ):aC E ρ 83 [LV.cv (CV.agg [CV.int .i64 a_0,CV.int .i64 a_1,CV.str a_2])] μ=
 cond (!decide (a_0 = (1 : Int))) (
 some (.ret (LV.bool false) μ)) (
 cond (!decide (a_1 = (0 : Int))) (
 cond (!decide (a_1 = (1 : Int))) (
 some (.ret (LV.bool false) μ)) (
 opt (zS ρ a_0 a_1 a_2 μ) (kB ρ 83 H83 []))) (
 opt (zS ρ a_0 a_1 a_2 μ) (kB ρ 83 H83 []))):=by kernel_rfl
theorem VB (a μ):aC E ρ 85 [LV.str a] μ=
 callK (ρ.call 43 [LV.str a, LV.cv (CV.clo 122 [])] μ) (fun v1 μ2 =>
 opt (aM v1) fun b5=>
 some (.ret (LV.bool (!b5)) μ2)) pP:=by kernel_rfl
theorem VC (a μ):aC E ρ 86 [LV.str a] μ=
 callK (ρ.call 84 [LV.str a, LV.str ([39] : List UInt8), LV.str ([39, 39] : List UInt8)] μ) (fun v1 μ2 =>
 opt (aL v1) fun s5=>
 aB (bd (List.length ([39] : List UInt8) + List.length s5)) (
 aB (bd (List.length (([39] : List UInt8) ++ s5) + List.length ([39] : List UInt8))) (
 some (.ret (LV.cv (CV.agg [CV.int .i64 (1:Int),CV.int .i64 (6:Int),CV.str ((([39]:List UInt8)++s5)++([39]:List UInt8))])) μ2)))) pP:=by kernel_rfl
theorem VD (a μ):aC E ρ 90 [LV.int .u8 a] μ=
 cond (decide ((97 : Int) ≤ a)) (
 cond (decide (a ≤ (122 : Int))) (
 some (.ret (LV.bool true) μ)) (
 cond (decide ((65 : Int) ≤ a)) (
 some (.ret (LV.bool (decide (a≤(90:Int)))) μ)) (
 some (.ret (LV.bool false) μ)))) (
 cond (decide ((65 : Int) ≤ a)) (
 some (.ret (LV.bool (decide (a≤(90:Int)))) μ)) (
 some (.ret (LV.bool false) μ))):=by kernel_rfl
theorem VE (a μ):aC E ρ 93 [LV.int .u8 a] μ=
 callK (ρ.call 90 [LV.int .u8 a] μ) (fun v1 μ2 =>
 opt (aM v1) fun b5=>
 cond (b5) (
 some (.ret (LV.bool true) μ2)) (
 callK (ρ.call 132 [LV.int .u8 a] μ2) (fun v6 μ7 =>
 opt (aM v6) fun b10=>
 cond (b10) (
 some (.ret (LV.bool true) μ7)) (
 some (.ret (LV.bool (decide (a=(95:Int)))) μ7))) pP)) pP:=by kernel_rfl
def La (x0:List CV)(x1:List UInt8)(x7 x8:Int):SegD:=⟨H94,[],cA 94 [1,0,1,0,0],mS [(0,LV.cv (CV.sl x0)),(1,LV.str x1),(7,LV.int .i64 x7),(8,LV.int .i64 x8)] []⟩
def GR (x0:List CV)(x1:List UInt8)(x7 x8:Int)(μ:Mu):=(La x0 x1 x7 x8).loop ρ μ
def vw (x4:Int)(μ:Mu):St:= .ret (mS [(4,LV.int .i64 x4)] []) μ
def vx (μ:Mu):St:= .exit 0 (mS [] []) μ
theorem F9 (x0 x1 x7 x8 μ):(La x0 x1 x7 x8).rK ρ μ=
 cond (decide (x8 < x7)) (
 opt (bY x0 x8) fun c1=>
 opt (aL (LV.cv c1)) fun s2=>
 cond (decide (x1 = s2)) (
 some (vw x8 μ)) (
 GR ρ x0 x1 x7 (IntKind.wrap .i64 (x8+(1:Int))) μ)) (
 some (vx μ)):=by kernel_rfl
theorem IY (x4 μ):kB ρ 94 H94 [.block 0,.seq (cA 94 [1,1])] (vw x4 μ)=
 some (.ret (LV.int .i64 x4) μ):=by kernel_rfl
theorem IZ (μ):kB ρ 94 H94 [.block 0,.seq (cA 94 [1,1])] (vx μ)=
 some (.ret (LV.int .i64 (-1:Int)) μ):=by kernel_rfl
theorem VF (a b μ):aC E ρ 94 [LV.cv (CV.sl a),LV.str b] μ=
 opt (GR ρ a b (List.length a:Int) (0:Int) μ) (kB ρ 94 H94 [.block 0,.seq (cA 94 [1,1])]):=by kernel_rfl
def KO (x0:List UInt8):SegD:=⟨H95,[(2,0)],cA 95 [1,1],mS [(0,LV.str x0)] []⟩
def Pq (x0:List UInt8)(μ:Mu):=(KO x0).seg ρ μ
def Lb (x0:List UInt8)(x19 x20:Int):SegD:=⟨H95,[],cA 95 [1,1,0,1,0,0],mS [(0,LV.str x0),(19,LV.int .i64 x19),(20,LV.int .i64 x20)] []⟩
def wk (x0:List UInt8)(x19 x20:Int)(μ:Mu):=(Lb x0 x19 x20).loop ρ μ
def vy (x2:Bool)(μ:Mu):St:= .ret (mS [(2,LV.bool x2)] []) μ
def AU (pv:CV)(μ:Mu):St:= .panic pv (mS [] []) μ
def vz (μ:Mu):St:= .exit 0 (mS [] []) μ
def pO (x2:Bool)(μ:Mu):St:= .ret (mS [(2,LV.bool x2)] []) μ
theorem Gb (x0 x19 x20 μ):(Lb x0 x19 x20).rK ρ μ=
 cond (decide (x20 < x19)) (
 opt (bn x0 x20) fun y7=>
 cond (!decide ((y7.toNat : Int) = (95 : Int))) (
 callK (ρ.call 133 [LV.int .u8 (y7.toNat : Int)] μ) (fun v8 μ9 =>
 opt (aM v8) fun b12=>
 cond (!b12) (
 callK (ρ.call 114 [LV.int .u8 (y7.toNat : Int)] μ9) (fun v13 μ14 =>
 opt (aM v13) fun b17=>
 cond (!b17) (
 some (vy false μ14)) (
 wk ρ x0 x19 (IntKind.wrap .i64 (x20+(1:Int))) μ14)) (pX AU)) (
 wk ρ x0 x19 (IntKind.wrap .i64 (x20+(1:Int))) μ9)) (pX AU)) (
 wk ρ x0 x19 (IntKind.wrap .i64 (x20+(1:Int))) μ)) (
 some (vz μ)):=by kernel_rfl
theorem I1 (x2 μ):kS ρ H95 [.block 0,.seq (cA 95 [1,1,1])] [(2,0)] (vy x2 μ)=
 some (pO x2 μ):=by kernel_rfl
theorem I2 (μ):kS ρ H95 [.block 0,.seq (cA 95 [1,1,1])] [(2,0)] (vz μ)=
 some (pO true μ):=by kernel_rfl
theorem Q7 (x0 μ):(KO x0).sK ρ μ=
 opt (wk ρ x0 (List.length x0:Int) (0:Int) μ) (kS ρ H95 [.block 0,.seq (cA 95 [1,1,1])] [(2,0)]):=by kernel_rfl
theorem Ip (x2 μ):kB ρ 95 H95 [] (pO x2 μ)=
 some (.ret (LV.bool x2) μ):=by kernel_rfl
theorem VG (a μ):aC E ρ 95 [LV.str a] μ=
 cond (decide (a = ([] : List UInt8))) (
 some (.ret (LV.bool false) μ)) (
 cond (decide ((31 : Int) < (List.length a : Int))) (
 some (.ret (LV.bool false) μ)) (
 opt (bn a (0:Int)) fun y1=>
 callK (ρ.call 133 [LV.int .u8 (y1.toNat : Int)] μ) (fun v2 μ3 =>
 opt (aM v2) fun b6=>
 cond (!b6) (
 some (.ret (LV.bool false) μ3)) (
 opt (Pq ρ a μ3) (kB ρ 95 H95 []))) pP)):=by kernel_rfl
theorem VH (a μ):aC E ρ 96 [LV.int .u8 a] μ=
 cond (decide ((65 : Int) ≤ a)) (
 cond (decide (a ≤ (90 : Int))) (
 some (.ret (LV.bool true) μ)) (
 cond (decide ((97 : Int) ≤ a)) (
 some (.ret (LV.bool (decide (a≤(122:Int)))) μ)) (
 some (.ret (LV.bool false) μ)))) (
 cond (decide ((97 : Int) ≤ a)) (
 some (.ret (LV.bool (decide (a≤(122:Int)))) μ)) (
 some (.ret (LV.bool false) μ))):=by kernel_rfl
def Lc (x3:Nat)(x4:Int)(o0:List CV):SegD:=⟨H97,[(3,0)],cA 97 [1,1,0,1,0,0],mS [(3,LV.lsl 0 0 x3),(4,LV.int .i64 x4)] [Ob.arr 1 o0]⟩
def tl (x3:Nat)(x4:Int)(o0:List CV)(μ:Mu):=(Lc x3 x4 o0).loop ρ μ
def pV (x3:Nat)(o0:List CV)(μ:Mu):St:= .exit 0 (mS [(3,LV.lsl 0 0 x3)] [Ob.arr 1 o0]) μ
theorem Gc (x3 x4 o0 μ):(Lc x3 x4 o0).rK ρ μ=
 cond (decide (x4 < (x3 : Int))) (
 aB (ex x4 x3) (
 opt (bB E.P 5 (Ob.arr 1 o0) (0+(x4).toNat*1)) fun v1=>
 opt (aF .u8 v1) fun n2=>
 cond (decide ((97 : Int) ≤ n2)) (
 aB (ex x4 x3) (
 opt (bB E.P 5 (Ob.arr 1 o0) (0+(x4).toNat*1)) fun v3=>
 opt (aF .u8 v3) fun n4=>
 cond (decide (n4 ≤ (122 : Int))) (
 aB (ex x4 x3) (
 opt (bB E.P 5 (Ob.arr 1 o0) (0+(x4).toNat*1)) fun v5=>
 opt (aF .u8 v5) fun n6=>
 aB (ex x4 x3) (
 aB (fq 1 (CV.int .u8 (IntKind.wrap .u8 (IntKind.wrap .u8 (n6 - (97 : Int)) + (65 : Int)))) && Nat.ble (0 + (x4).toNat * 1 + 1) (List.length o0)) (
 tl ρ x3 (IntKind.wrap .i64 (x4+(1:Int))) (cU o0 (0+(x4).toNat*1) (CV.cells (CV.int .u8 (IntKind.wrap .u8 (IntKind.wrap .u8 (n6-(97:Int))+(65:Int)))))) μ)))) (
 tl ρ x3 (IntKind.wrap .i64 (x4+(1:Int))) o0 μ))) (
 tl ρ x3 (IntKind.wrap .i64 (x4+(1:Int))) o0 μ))) (
 some (pV x3 o0 μ)):=by kernel_rfl
theorem I3 (x3 o0 μ):kB ρ 97 H97 [.block 0,.seq (cA 97 [1,1,1])] (pV x3 o0 μ)=
 aB (Nat.ble (0 + x3) (List.length o0)) (
 opt (bk (List.take x3 (List.drop 0 o0))) fun s7=>
 some (.ret (LV.str s7) μ)):=by kernel_rfl
theorem VI (a μ):aC E ρ 97 [LV.str a] μ=
 aB (bd (List.length a)) (
 opt (tl ρ (List.length a) (0:Int) (aW a) μ) (kB ρ 97 H97 [.block 0,.seq (cA 97 [1,1,1])])):=by kernel_rfl
def Ld (x0:List UInt8)(x1 x5 x6:Int)(x7:Bool)(x30:List CV)(x31 x32 o0_0 o0_1:Int)(o0_2:List UInt8)(o0_3 o0_4:Int):SegD:=⟨H98,[(0,0),(1,0),(4,0),(5,0),(6,0),(7,0)],cA 98 [1,1,1,1,0,1,0,0],mS [(0,LV.str x0),(1,LV.int .i64 x1),(4,LV.loc 0 0),(5,LV.int .i64 x5),(6,LV.int .i64 x6),(7,LV.bool x7),(30,LV.cv (CV.sl x30)),(31,LV.int .i64 x31),(32,LV.int .i64 x32)] [Ob.cells [LV.int .i64 o0_0,LV.int .i64 o0_1,LV.str o0_2,LV.int .i64 o0_3,LV.int .i64 o0_4]]⟩
def wm (x0:List UInt8)(x1 x5 x6:Int)(x7:Bool)(x30:List CV)(x31 x32 o0_0 o0_1:Int)(o0_2:List UInt8)(o0_3 o0_4:Int)(μ:Mu):=(Ld x0 x1 x5 x6 x7 x30 x31 x32 o0_0 o0_1 o0_2 o0_3 o0_4).loop ρ μ
def No (pv:CV)(μ:Mu):St:= .panic pv (mS [] []) μ
def vA (x0:List UInt8)(x1 x5 x6:Int)(x7:Bool)(o0_0 o0_1:Int)(o0_2:List UInt8)(o0_3 o0_4:Int)(μ:Mu):St:= .exit 0 (mS [(0,LV.str x0),(1,LV.int .i64 x1),(4,LV.loc 0 0),(5,LV.int .i64 x5),(6,LV.int .i64 x6),(7,LV.bool x7)] [Ob.cells [LV.int .i64 o0_0,LV.int .i64 o0_1,LV.str o0_2,LV.int .i64 o0_3,LV.int .i64 o0_4]]) μ
def Fe (x0:List UInt8)(x1 x5 x6:Int)(x7 x10:Bool)(x11 o0_0 o0_1:Int)(o0_2:List UInt8)(o0_3 o0_4:Int):SegD:=⟨H98,[(4,0)],cA 98 [1,1,1,1,1,1,1],mS [(0,LV.str x0),(1,LV.int .i64 x1),(4,LV.loc 0 0),(5,LV.int .i64 x5),(6,LV.int .i64 x6),(7,LV.bool x7),(10,LV.bool x10),(11,LV.int .i64 x11)] [Ob.cells [LV.int .i64 o0_0,LV.int .i64 o0_1,LV.str o0_2,LV.int .i64 o0_3,LV.int .i64 o0_4]]⟩
def oA (x0:List UInt8)(x1 x5 x6:Int)(x7 x10:Bool)(x11 o0_0 o0_1:Int)(o0_2:List UInt8)(o0_3 o0_4:Int)(μ:Mu):=(Fe x0 x1 x5 x6 x7 x10 x11 o0_0 o0_1 o0_2 o0_3 o0_4).seg ρ μ
def Ff (x0:List UInt8)(x1 x5 x6:Int)(x10:Bool)(x11 x12 x13:Int)(x14:Bool)(x15 o0_0 o0_1:Int)(o0_2:List UInt8)(o0_3 o0_4:Int):SegD:=⟨H98,[(0,0),(1,0),(4,0),(5,0),(6,0),(10,0),(11,0),(12,0),(13,0),(14,0)],cA 98 [1,1,1,1,1,1,1,1,1,0,1,0,1,1],mS [(0,LV.str x0),(1,LV.int .i64 x1),(4,LV.loc 0 0),(5,LV.int .i64 x5),(6,LV.int .i64 x6),(10,LV.bool x10),(11,LV.int .i64 x11),(12,LV.int .i64 x12),(13,LV.int .i64 x13),(14,LV.bool x14),(15,LV.int .i64 x15)] [Ob.cells [LV.int .i64 o0_0,LV.int .i64 o0_1,LV.str o0_2,LV.int .i64 o0_3,LV.int .i64 o0_4]]⟩
def di (x0:List UInt8)(x1 x5 x6:Int)(x10:Bool)(x11 x12 x13:Int)(x14:Bool)(x15 o0_0 o0_1:Int)(o0_2:List UInt8)(o0_3 o0_4:Int)(μ:Mu):=(Ff x0 x1 x5 x6 x10 x11 x12 x13 x14 x15 o0_0 o0_1 o0_2 o0_3 o0_4).seg ρ μ
def rC (o0_0 o0_1:Int)(o0_2:List UInt8)(o0_3 o0_4:Int)(μ:Mu):St:= .ret (mS [(4,LV.loc 0 0)] [Ob.cells [LV.int .i64 o0_0,LV.int .i64 o0_1,LV.str o0_2,LV.int .i64 o0_3,LV.int .i64 o0_4]]) μ
def Fg (x0:List UInt8)(x1 x5 x6:Int)(x10:Bool)(x11 x12 x15 x16 o0_0 o0_1:Int)(o0_2:List UInt8)(o0_3 o0_4:Int):SegD:=⟨H98,[(0,0),(1,0),(4,0),(5,0),(6,0),(10,0),(11,0),(12,0),(13,0),(14,0)],cA 98 [1,1,1,1,1,1,1,1,1,0,1,0,1,1,1,1,0,1],mS [(0,LV.str x0),(1,LV.int .i64 x1),(4,LV.loc 0 0),(5,LV.int .i64 x5),(6,LV.int .i64 x6),(10,LV.bool x10),(11,LV.int .i64 x11),(12,LV.int .i64 x12),(15,LV.int .i64 x15),(16,LV.int .i64 x16)] [Ob.cells [LV.int .i64 o0_0,LV.int .i64 o0_1,LV.str o0_2,LV.int .i64 o0_3,LV.int .i64 o0_4]]⟩
def JH (x0:List UInt8)(x1 x5 x6:Int)(x10:Bool)(x11 x12 x15 x16 o0_0 o0_1:Int)(o0_2:List UInt8)(o0_3 o0_4:Int)(μ:Mu):=(Fg x0 x1 x5 x6 x10 x11 x12 x15 x16 o0_0 o0_1 o0_2 o0_3 o0_4).seg ρ μ
def Fh (x0:List UInt8)(x1 x5 x6:Int)(x10:Bool)(x11 x12 x13:Int)(x14:Bool)(x15 x16 o0_0 o0_1:Int)(o0_2:List UInt8)(o0_3 o0_4:Int):SegD:=⟨H98,[(0,0),(1,0),(4,0),(5,0),(6,0),(10,0),(11,0),(12,0),(13,0),(14,0)],cA 98 [1,1,1,1,1,1,1,1,1,0,1,0,1,1,1,1,0,1,1,1,1],mS [(0,LV.str x0),(1,LV.int .i64 x1),(4,LV.loc 0 0),(5,LV.int .i64 x5),(6,LV.int .i64 x6),(10,LV.bool x10),(11,LV.int .i64 x11),(12,LV.int .i64 x12),(13,LV.int .i64 x13),(14,LV.bool x14),(15,LV.int .i64 x15),(16,LV.int .i64 x16)] [Ob.cells [LV.int .i64 o0_0,LV.int .i64 o0_1,LV.str o0_2,LV.int .i64 o0_3,LV.int .i64 o0_4]]⟩
def AA (x0:List UInt8)(x1 x5 x6:Int)(x10:Bool)(x11 x12 x13:Int)(x14:Bool)(x15 x16 o0_0 o0_1:Int)(o0_2:List UInt8)(o0_3 o0_4:Int)(μ:Mu):=(Fh x0 x1 x5 x6 x10 x11 x12 x13 x14 x15 x16 o0_0 o0_1 o0_2 o0_3 o0_4).seg ρ μ
def ly (x0:List UInt8)(x1 x5 x6:Int)(x10:Bool)(x11 x12 x13:Int)(x14:Bool)(o0_0 o0_1:Int)(o0_2:List UInt8)(o0_3 o0_4:Int)(μ:Mu):St:= .norm (mS [(0,LV.str x0),(1,LV.int .i64 x1),(4,LV.loc 0 0),(5,LV.int .i64 x5),(6,LV.int .i64 x6),(10,LV.bool x10),(11,LV.int .i64 x11),(12,LV.int .i64 x12),(13,LV.int .i64 x13),(14,LV.bool x14)] [Ob.cells [LV.int .i64 o0_0,LV.int .i64 o0_1,LV.str o0_2,LV.int .i64 o0_3,LV.int .i64 o0_4]]) μ
def rD (x0:List UInt8)(x1 x5 x6:Int)(x10:Bool)(x11 x12 x13:Int)(x14:Bool)(o0_0 o0_1:Int)(o0_2:List UInt8)(o0_3 o0_4:Int)(μ:Mu):St:= .norm (mS [(0,LV.str x0),(1,LV.int .i64 x1),(4,LV.loc 0 0),(5,LV.int .i64 x5),(6,LV.int .i64 x6),(10,LV.bool x10),(11,LV.int .i64 x11),(12,LV.int .i64 x12),(13,LV.int .i64 x13),(14,LV.bool x14)] [Ob.cells [LV.int .i64 o0_0,LV.int .i64 o0_1,LV.str o0_2,LV.int .i64 o0_3,LV.int .i64 o0_4]]) μ
def JZ (pv:CV)(μ:Mu):St:= .panic pv (mS [] []) μ
def lx (x0:List UInt8)(x1 x5 x6:Int)(x10:Bool)(x11 x12 x13:Int)(x14:Bool)(o0_0 o0_1:Int)(o0_2:List UInt8)(o0_3 o0_4:Int)(μ:Mu):St:= .norm (mS [(0,LV.str x0),(1,LV.int .i64 x1),(4,LV.loc 0 0),(5,LV.int .i64 x5),(6,LV.int .i64 x6),(10,LV.bool x10),(11,LV.int .i64 x11),(12,LV.int .i64 x12),(13,LV.int .i64 x13),(14,LV.bool x14)] [Ob.cells [LV.int .i64 o0_0,LV.int .i64 o0_1,LV.str o0_2,LV.int .i64 o0_3,LV.int .i64 o0_4]]) μ
def JY (pv:CV)(μ:Mu):St:= .panic pv (mS [] []) μ
def gc (o0_0 o0_1:Int)(o0_2:List UInt8)(o0_3 o0_4:Int)(μ:Mu):St:= .ret (mS [(4,LV.loc 0 0)] [Ob.cells [LV.int .i64 o0_0,LV.int .i64 o0_1,LV.str o0_2,LV.int .i64 o0_3,LV.int .i64 o0_4]]) μ
def Fi (x0:List UInt8)(x1 x5 x6:Int)(x10:Bool)(x11 x12 x13:Int)(x14:Bool)(o0_0 o0_1:Int)(o0_2:List UInt8)(o0_3 o0_4:Int):SegD:=⟨H98,[(4,0)],cA 98 [1,1,1,1,1,1,1,1,1,1],mS [(0,LV.str x0),(1,LV.int .i64 x1),(4,LV.loc 0 0),(5,LV.int .i64 x5),(6,LV.int .i64 x6),(10,LV.bool x10),(11,LV.int .i64 x11),(12,LV.int .i64 x12),(13,LV.int .i64 x13),(14,LV.bool x14)] [Ob.cells [LV.int .i64 o0_0,LV.int .i64 o0_1,LV.str o0_2,LV.int .i64 o0_3,LV.int .i64 o0_4]]⟩
def oB (x0:List UInt8)(x1 x5 x6:Int)(x10:Bool)(x11 x12 x13:Int)(x14:Bool)(o0_0 o0_1:Int)(o0_2:List UInt8)(o0_3 o0_4:Int)(μ:Mu):=(Fi x0 x1 x5 x6 x10 x11 x12 x13 x14 o0_0 o0_1 o0_2 o0_3 o0_4).seg ρ μ
def jr (o0_0 o0_1:Int)(o0_2:List UInt8)(o0_3 o0_4:Int)(μ:Mu):St:= .ret (mS [(4,LV.loc 0 0)] [Ob.cells [LV.int .i64 o0_0,LV.int .i64 o0_1,LV.str o0_2,LV.int .i64 o0_3,LV.int .i64 o0_4]]) μ
def Fj (x0:List UInt8)(x1 x5 x6 o0_0 o0_1:Int)(o0_2:List UInt8)(o0_3 o0_4:Int):SegD:=⟨H98,[(0,0),(1,0),(4,0),(5,0),(6,0),(10,0),(11,0),(12,0),(13,0)],cA 98 [1,1,1,1,1,1,1,1,1,1,0,1,0,1],mS [(0,LV.str x0),(1,LV.int .i64 x1),(4,LV.loc 0 0),(5,LV.int .i64 x5),(6,LV.int .i64 x6)] [Ob.cells [LV.int .i64 o0_0,LV.int .i64 o0_1,LV.str o0_2,LV.int .i64 o0_3,LV.int .i64 o0_4]]⟩
def JI (x0:List UInt8)(x1 x5 x6 o0_0 o0_1:Int)(o0_2:List UInt8)(o0_3 o0_4:Int)(μ:Mu):=(Fj x0 x1 x5 x6 o0_0 o0_1 o0_2 o0_3 o0_4).seg ρ μ
def lz (o0_0 o0_1:Int)(o0_2:List UInt8)(o0_3 o0_4:Int)(μ:Mu):St:= .ret (mS [(4,LV.loc 0 0)] [Ob.cells [LV.int .i64 o0_0,LV.int .i64 o0_1,LV.str o0_2,LV.int .i64 o0_3,LV.int .i64 o0_4]]) μ
def J0 (pv:CV)(μ:Mu):St:= .panic pv (mS [] []) μ
def Fk (x0:List UInt8)(x1 x5 x6:Int)(x10:Bool)(x11 x12 x13 o0_0 o0_1:Int)(o0_2:List UInt8)(o0_3 o0_4:Int):SegD:=⟨H98,[(4,0)],cA 98 [1,1,1,1,1,1,1,1,1,1,1],mS [(0,LV.str x0),(1,LV.int .i64 x1),(4,LV.loc 0 0),(5,LV.int .i64 x5),(6,LV.int .i64 x6),(10,LV.bool x10),(11,LV.int .i64 x11),(12,LV.int .i64 x12),(13,LV.int .i64 x13)] [Ob.cells [LV.int .i64 o0_0,LV.int .i64 o0_1,LV.str o0_2,LV.int .i64 o0_3,LV.int .i64 o0_4]]⟩
def wj (x0:List UInt8)(x1 x5 x6:Int)(x10:Bool)(x11 x12 x13 o0_0 o0_1:Int)(o0_2:List UInt8)(o0_3 o0_4:Int)(μ:Mu):=(Fk x0 x1 x5 x6 x10 x11 x12 x13 o0_0 o0_1 o0_2 o0_3 o0_4).seg ρ μ
def Fl (x0:List UInt8)(x1 x5 x6 x12 x13:Int)(x18:List UInt8)(o0_0 o0_1:Int)(o0_2:List UInt8)(o0_3 o0_4:Int):SegD:=⟨H98,[(4,0)],cA 98 [1,1,1,1,1,1,1,1,1,1,1,1,1],mS [(0,LV.str x0),(1,LV.int .i64 x1),(4,LV.loc 0 0),(5,LV.int .i64 x5),(6,LV.int .i64 x6),(12,LV.int .i64 x12),(13,LV.int .i64 x13),(18,LV.str x18)] [Ob.cells [LV.int .i64 o0_0,LV.int .i64 o0_1,LV.str o0_2,LV.int .i64 o0_3,LV.int .i64 o0_4]]⟩
def AB (x0:List UInt8)(x1 x5 x6 x12 x13:Int)(x18:List UInt8)(o0_0 o0_1:Int)(o0_2:List UInt8)(o0_3 o0_4:Int)(μ:Mu):=(Fl x0 x1 x5 x6 x12 x13 x18 o0_0 o0_1 o0_2 o0_3 o0_4).seg ρ μ
def lA (o0_0 o0_1:Int)(o0_2:List UInt8)(o0_3 o0_4:Int)(μ:Mu):St:= .ret (mS [(4,LV.loc 0 0)] [Ob.cells [LV.int .i64 o0_0,LV.int .i64 o0_1,LV.str o0_2,LV.int .i64 o0_3,LV.int .i64 o0_4]]) μ
def Fm (x6 x12 x13:Int)(x19 x20:List UInt8)(o0_0 o0_1:Int)(o0_2:List UInt8)(o0_3 o0_4:Int):SegD:=⟨H98,[(4,0)],cA 98 [1,1,1,1,1,1,1,1,1,1,1,1,1,1,1],mS [(4,LV.loc 0 0),(6,LV.int .i64 x6),(12,LV.int .i64 x12),(13,LV.int .i64 x13),(19,LV.str x19),(20,LV.str x20)] [Ob.cells [LV.int .i64 o0_0,LV.int .i64 o0_1,LV.str o0_2,LV.int .i64 o0_3,LV.int .i64 o0_4]]⟩
def JJ (x6 x12 x13:Int)(x19 x20:List UInt8)(o0_0 o0_1:Int)(o0_2:List UInt8)(o0_3 o0_4:Int)(μ:Mu):=(Fm x6 x12 x13 x19 x20 o0_0 o0_1 o0_2 o0_3 o0_4).seg ρ μ
def lB (o0_0 o0_1:Int)(o0_2:List UInt8)(o0_3 o0_4:Int)(μ:Mu):St:= .ret (mS [(4,LV.loc 0 0)] [Ob.cells [LV.int .i64 o0_0,LV.int .i64 o0_1,LV.str o0_2,LV.int .i64 o0_3,LV.int .i64 o0_4]]) μ
def yK (pv:CV)(μ:Mu):St:= .panic pv (mS [] []) μ
def js (pv:CV)(μ:Mu):St:= .panic pv (mS [] []) μ
def nB (o0_0 o0_1:Int)(o0_2:List UInt8)(o0_3 o0_4:Int)(μ:Mu):St:= .ret (mS [(4,LV.loc 0 0)] [Ob.cells [LV.int .i64 o0_0,LV.int .i64 o0_1,LV.str o0_2,LV.int .i64 o0_3,LV.int .i64 o0_4]]) μ
theorem Gd (x0 x1 x5 x6 x7 x30 x31 x32 o0_0 o0_1 o0_2 o0_3 o0_4 μ):(Ld x0 x1 x5 x6 x7 x30 x31 x32 o0_0 o0_1 o0_2 o0_3 o0_4).rK ρ μ=
 cond (decide (x32 < x31)) (
 opt (bY x30 x32) fun c11=>
 opt (aL (LV.cv c11)) fun s12=>
 cond (x7) (
 wm ρ x0 x1 x5 x6 true x30 x31 (IntKind.wrap .i64 (x32+(1:Int))) o0_0 o0_1 o0_2 o0_3 o0_4 μ) (
 cond (decide ((0 : Int) < x5)) (
 callK (ρ.call 99 [LV.str x0, LV.int .i64 x6, LV.str s12] μ) (fun v13 μ14 =>
 opt (aM v13) fun b17=>
 wm ρ x0 x1 x5 x6 b17 x30 x31 (IntKind.wrap .i64 (x32+(1:Int))) o0_0 o0_1 o0_2 o0_3 o0_4 μ14) (pX No)) (
 wm ρ x0 x1 x5 x6 false x30 x31 (IntKind.wrap .i64 (x32+(1:Int))) o0_0 o0_1 o0_2 o0_3 o0_4 μ))) (
 some (vA x0 x1 x5 x6 x7 o0_0 o0_1 o0_2 o0_3 o0_4 μ)):=by kernel_rfl
theorem Oq (x0 x1 x5 x6 x10 x11 x12 x13 x14 x15 x16 o0_0 o0_1 o0_2 o0_3 o0_4 μ):(Fh x0 x1 x5 x6 x10 x11 x12 x13 x14 x15 x16 o0_0 o0_1 o0_2 o0_3 o0_4).sK ρ μ=
 opt (bn x0 x6) fun y38=>
 cond (decide ((y38.toNat : Int) = (68 : Int))) (
 some (ly x0 x1 x5 (IntKind.wrap .i64 (x15+x16)) x10 x11 (2:Int) x13 x14 o0_0 o0_1 o0_2 o0_3 o0_4 μ)) (
 opt (bn x0 x6) fun y39=>
 cond (decide ((y39.toNat : Int) = (100 : Int))) (
 some (ly x0 x1 x5 (IntKind.wrap .i64 (x15+x16)) x10 x11 (2:Int) x13 x14 o0_0 o0_1 o0_2 o0_3 o0_4 μ)) (
 some (ly x0 x1 x5 (IntKind.wrap .i64 (x15+x16)) x10 x11 x12 x13 x14 o0_0 o0_1 o0_2 o0_3 o0_4 μ))):=by kernel_rfl
theorem uj (x0 x1 x5 x6 x10 x11 x12 x13 x14 o0_0 o0_1 o0_2 o0_3 o0_4 μ):kS ρ H98 [] [(0,0),(1,0),(4,0),(5,0),(6,0),(10,0),(11,0),(12,0),(13,0),(14,0)] (ly x0 x1 x5 x6 x10 x11 x12 x13 x14 o0_0 o0_1 o0_2 o0_3 o0_4 μ)=
 some (rD x0 x1 x5 x6 x10 x11 x12 x13 x14 o0_0 o0_1 o0_2 o0_3 o0_4 μ):=by kernel_rfl
theorem Oo (x0 x1 x5 x6 x10 x11 x12 x15 x16 o0_0 o0_1 o0_2 o0_3 o0_4 μ):(Fg x0 x1 x5 x6 x10 x11 x12 x15 x16 o0_0 o0_1 o0_2 o0_3 o0_4).sK ρ μ=
 opt (dk x0 x15 (IntKind.wrap .i64 (x15+x16))) fun s31=>
 callK (ρ.call 120 [LV.str s31] μ) (fun v32 μ33 =>
 opt (aF .i64 v32) fun n36=>
 opt (bn x0 (IntKind.wrap .i64 (x15-(1:Int)))) fun y37=>
 cond (decide ((y37.toNat : Int) = (45 : Int))) (
 opt (AA ρ x0 x1 x5 x6 x10 x11 x12 (IntKind.wrap .i64 (0-n36)) true x15 x16 o0_0 o0_1 o0_2 o0_3 o0_4 μ33) (kS ρ H98 [] [(0,0),(1,0),(4,0),(5,0),(6,0),(10,0),(11,0),(12,0),(13,0),(14,0)])) (
 opt (AA ρ x0 x1 x5 x6 x10 x11 x12 n36 true x15 x16 o0_0 o0_1 o0_2 o0_3 o0_4 μ33) (kS ρ H98 [] [(0,0),(1,0),(4,0),(5,0),(6,0),(10,0),(11,0),(12,0),(13,0),(14,0)]))) (pX JZ):=by kernel_rfl
theorem DR (x0 x1 x5 x6 x10 x11 x12 x13 x14 o0_0 o0_1 o0_2 o0_3 o0_4 μ):kS ρ H98 [] [(0,0),(1,0),(4,0),(5,0),(6,0),(10,0),(11,0),(12,0),(13,0),(14,0)] (rD x0 x1 x5 x6 x10 x11 x12 x13 x14 o0_0 o0_1 o0_2 o0_3 o0_4 μ)=
 some (lx x0 x1 x5 x6 x10 x11 x12 x13 x14 o0_0 o0_1 o0_2 o0_3 o0_4 μ):=by kernel_rfl
theorem On (x0 x1 x5 x6 x10 x11 x12 x13 x14 x15 o0_0 o0_1 o0_2 o0_3 o0_4 μ):(Ff x0 x1 x5 x6 x10 x11 x12 x13 x14 x15 o0_0 o0_1 o0_2 o0_3 o0_4).sK ρ μ=
 callK (ρ.call 47 [LV.str x0, LV.int .i64 x15] μ) (fun v26 μ27 =>
 opt (aF .i64 v26) fun n30=>
 cond (decide ((0 : Int) < n30)) (
 cond (decide ((3 : Int) < n30)) (
 some (rC (0:Int) (0:Int) ([]:List UInt8) (0:Int) (7:Int) μ27)) (
 opt (JH ρ x0 x1 x5 x6 x10 x11 x12 x15 n30 o0_0 o0_1 o0_2 o0_3 o0_4 μ27) (kS ρ H98 [] [(0,0),(1,0),(4,0),(5,0),(6,0),(10,0),(11,0),(12,0),(13,0),(14,0)]))) (
 some (lx x0 x1 x5 x6 x10 x11 x12 x13 x14 o0_0 o0_1 o0_2 o0_3 o0_4 μ27))) (pX JY):=by kernel_rfl
theorem DQ (o0_0 o0_1 o0_2 o0_3 o0_4 μ):kS ρ H98 [.seq (cA 98 [1,1,1,1,1,1,1,1,1,1])] [(4,0)] (rC o0_0 o0_1 o0_2 o0_3 o0_4 μ)=
 some (gc o0_0 o0_1 o0_2 o0_3 o0_4 μ):=by kernel_rfl
theorem Ou (x0 x1 x5 x6 o0_0 o0_1 o0_2 o0_3 o0_4 μ):(Fj x0 x1 x5 x6 o0_0 o0_1 o0_2 o0_3 o0_4).sK ρ μ=
 opt (dk x0 x1 (IntKind.wrap .i64 (x1+x5))) fun s43=>
 callK (ρ.call 69 [LV.str s43] μ) (fun v44 μ45 =>
 opt (aL v44) fun s48=>
 cond (decide ((List.length s48 : Int) = (10 : Int))) (
 cond (!(Op.bytesLess s48 ([50, 49, 52, 55, 52, 56, 51, 54, 52, 55] : List UInt8) || decide (s48 = ([50, 49, 52, 55, 52, 56, 51, 54, 52, 55] : List UInt8)))) (
 some (lz (0:Int) (0:Int) ([]:List UInt8) (0:Int) (28:Int) μ45)) (
 some (lz (1:Int) (0:Int) s48 x6 (0:Int) μ45))) (
 some (lz (1:Int) (0:Int) s48 x6 (0:Int) μ45))) (pX J0):=by kernel_rfl
theorem ul (o0_0 o0_1 o0_2 o0_3 o0_4 μ):kS ρ H98 [.seq (cA 98 [1,1,1,1,1,1,1,1,1,1,1])] [(4,0)] (lz o0_0 o0_1 o0_2 o0_3 o0_4 μ)=
 some (jr o0_0 o0_1 o0_2 o0_3 o0_4 μ):=by kernel_rfl
theorem Ow (x6 x12 x13 x19 x20 o0_0 o0_1 o0_2 o0_3 o0_4 μ):(Fm x6 x12 x13 x19 x20 o0_0 o0_1 o0_2 o0_3 o0_4).sK ρ μ=
 aB (bd (List.length x19 + List.length ([46] : List UInt8))) (
 aB (bd (List.length (x19 ++ ([46] : List UInt8)) + List.length x20)) (
 cond (decide (x12 = (2 : Int))) (
 aB (bd (List.length ((x19 ++ ([46] : List UInt8)) ++ x20) + List.length ([68] : List UInt8))) (
 callK (ρ.call 71 [LV.int .i64 x13] μ) (fun v82 μ83 =>
 opt (aL v82) fun s86=>
 aB (bd (List.length (((x19 ++ ([46] : List UInt8)) ++ x20) ++ ([68] : List UInt8)) + List.length s86)) (
 some (lB (1:Int) x12 ((((x19++([46]:List UInt8))++x20)++([68]:List UInt8))++s86) x6 (0:Int) μ83))) (pX yK))) (
 cond (!decide (x13 = (0 : Int))) (
 aB (bd (List.length ((x19 ++ ([46] : List UInt8)) ++ x20) + List.length ([69] : List UInt8))) (
 callK (ρ.call 71 [LV.int .i64 x13] μ) (fun v87 μ88 =>
 opt (aL v87) fun s91=>
 aB (bd (List.length (((x19 ++ ([46] : List UInt8)) ++ x20) ++ ([69] : List UInt8)) + List.length s91)) (
 some (lB (1:Int) x12 ((((x19++([46]:List UInt8))++x20)++([69]:List UInt8))++s91) x6 (0:Int) μ88))) (pX yK))) (
 some (lB (1:Int) x12 ((x19++([46]:List UInt8))++x20) x6 (0:Int) μ))))):=by kernel_rfl
theorem DS (o0_0 o0_1 o0_2 o0_3 o0_4 μ):kS ρ H98 [] [(4,0)] (lB o0_0 o0_1 o0_2 o0_3 o0_4 μ)=
 some (lA o0_0 o0_1 o0_2 o0_3 o0_4 μ):=by kernel_rfl
theorem Ov (x0 x1 x5 x6 x12 x13 x18 o0_0 o0_1 o0_2 o0_3 o0_4 μ):(Fl x0 x1 x5 x6 x12 x13 x18 o0_0 o0_1 o0_2 o0_3 o0_4).sK ρ μ=
 opt (dk x0 x1 (IntKind.wrap .i64 (x1+x5))) fun s51=>
 callK (ρ.call 70 [LV.str s51] μ) (fun v52 μ53 =>
 opt (aL v52) fun s56=>
 callK (ρ.call 69 [LV.str s56] μ53) (fun v57 μ58 =>
 opt (aL v57) fun s61=>
 callK (ρ.call 70 [LV.str x18] μ58) (fun v62 μ63 =>
 opt (aL v62) fun s66=>
 callK (ρ.call 134 [LV.str s66] μ63) (fun v67 μ68 =>
 opt (aL v67) fun s71=>
 callK (ρ.call 135 [LV.str s61] μ68) (fun v72 μ73 =>
 opt (aF .i64 v72) fun n76=>
 callK (ρ.call 135 [LV.str s71] μ73) (fun v77 μ78 =>
 opt (aF .i64 v77) fun n81=>
 cond (decide ((30 : Int) < IntKind.wrap .i64 (n76 + n81))) (
 some (lA (0:Int) (0:Int) ([]:List UInt8) (0:Int) (7:Int) μ78)) (
 opt (JJ ρ x6 x12 x13 s61 s71 o0_0 o0_1 o0_2 o0_3 o0_4 μ78) (kS ρ H98 [] [(4,0)]))) (pX js)) (pX js)) (pX js)) (pX js)) (pX js)) (pX js):=by kernel_rfl
theorem un (o0_0 o0_1 o0_2 o0_3 o0_4 μ):kS ρ H98 [] [(4,0)] (lA o0_0 o0_1 o0_2 o0_3 o0_4 μ)=
 some (nB o0_0 o0_1 o0_2 o0_3 o0_4 μ):=by kernel_rfl
theorem BP (x0 x1 x5 x6 x10 x11 x12 x13 o0_0 o0_1 o0_2 o0_3 o0_4 μ):(Fk x0 x1 x5 x6 x10 x11 x12 x13 o0_0 o0_1 o0_2 o0_3 o0_4).sK ρ μ=
 cond (x10) (
 opt (dk x0 (IntKind.wrap .i64 (IntKind.wrap .i64 (x1+x5)+(1:Int))) (IntKind.wrap .i64 (IntKind.wrap .i64 (IntKind.wrap .i64 (x1+x5)+(1:Int))+x11))) fun s50=>
 opt (AB ρ x0 x1 x5 x6 x12 x13 s50 o0_0 o0_1 o0_2 o0_3 o0_4 μ) (kS ρ H98 [] [(4,0)])) (
 opt (AB ρ x0 x1 x5 x6 x12 x13 ([]:List UInt8) o0_0 o0_1 o0_2 o0_3 o0_4 μ) (kS ρ H98 [] [(4,0)])):=by kernel_rfl
theorem um (o0_0 o0_1 o0_2 o0_3 o0_4 μ):kS ρ H98 [] [(4,0)] (nB o0_0 o0_1 o0_2 o0_3 o0_4 μ)=
 some (jr o0_0 o0_1 o0_2 o0_3 o0_4 μ):=by kernel_rfl
theorem Ot (x0 x1 x5 x6 x10 x11 x12 x13 x14 o0_0 o0_1 o0_2 o0_3 o0_4 μ):(Fi x0 x1 x5 x6 x10 x11 x12 x13 x14 o0_0 o0_1 o0_2 o0_3 o0_4).sK ρ μ=
 cond (!x10) (
 cond (!x14) (
 cond (decide ((10 : Int) < x5)) (
 some (jr (0:Int) (0:Int) ([]:List UInt8) (0:Int) (28:Int) μ)) (
 opt (JI ρ x0 x1 x5 x6 o0_0 o0_1 o0_2 o0_3 o0_4 μ) (kS ρ H98 [.seq (cA 98 [1,1,1,1,1,1,1,1,1,1,1])] [(4,0)]))) (
 opt (wj ρ x0 x1 x5 x6 x10 x11 x12 x13 o0_0 o0_1 o0_2 o0_3 o0_4 μ) (kS ρ H98 [] [(4,0)]))) (
 opt (wj ρ x0 x1 x5 x6 x10 x11 x12 x13 o0_0 o0_1 o0_2 o0_3 o0_4 μ) (kS ρ H98 [] [(4,0)])):=by kernel_rfl
theorem uk (o0_0 o0_1 o0_2 o0_3 o0_4 μ):kS ρ H98 [] [(4,0)] (jr o0_0 o0_1 o0_2 o0_3 o0_4 μ)=
 some (gc o0_0 o0_1 o0_2 o0_3 o0_4 μ):=by kernel_rfl
theorem ui (x0 x1 x5 x6 x10 x11 x12 x13 x14 o0_0 o0_1 o0_2 o0_3 o0_4 μ):kS ρ H98 [.seq (cA 98 [1,1,1,1,1,1,1,1,1,1])] [(4,0)] (lx x0 x1 x5 x6 x10 x11 x12 x13 x14 o0_0 o0_1 o0_2 o0_3 o0_4 μ)=
 opt (oB ρ x0 x1 x5 x6 x10 x11 x12 x13 x14 o0_0 o0_1 o0_2 o0_3 o0_4 μ) (kS ρ H98 [] [(4,0)]):=by kernel_rfl
theorem Om (x0 x1 x5 x6 x7 x10 x11 o0_0 o0_1 o0_2 o0_3 o0_4 μ):(Fe x0 x1 x5 x6 x7 x10 x11 o0_0 o0_1 o0_2 o0_3 o0_4).sK ρ μ=
 cond (!x7) (
 cond (decide (x6 < (List.length x0 : Int))) (
 opt (bn x0 x6) fun y24=>
 cond (decide ((y24.toNat : Int) = (69 : Int))) (
 cond (decide (IntKind.wrap .i64 (x6 + (1 : Int)) < (List.length x0 : Int))) (
 opt (bn x0 (IntKind.wrap .i64 (x6+(1:Int)))) fun y25=>
 cond (decide ((y25.toNat : Int) = (43 : Int))) (
 opt (di ρ x0 x1 x5 x6 x10 x11 (1:Int) (0:Int) false (IntKind.wrap .i64 (IntKind.wrap .i64 (x6+(1:Int))+(1:Int))) o0_0 o0_1 o0_2 o0_3 o0_4 μ) (kS ρ H98 [.seq (cA 98 [1,1,1,1,1,1,1,1,1,1])] [(4,0)])) (
 opt (bn x0 (IntKind.wrap .i64 (x6+(1:Int)))) fun y99=>
 cond (decide ((y99.toNat : Int) = (45 : Int))) (
 opt (di ρ x0 x1 x5 x6 x10 x11 (1:Int) (0:Int) false (IntKind.wrap .i64 (IntKind.wrap .i64 (x6+(1:Int))+(1:Int))) o0_0 o0_1 o0_2 o0_3 o0_4 μ) (kS ρ H98 [.seq (cA 98 [1,1,1,1,1,1,1,1,1,1])] [(4,0)])) (
 opt (di ρ x0 x1 x5 x6 x10 x11 (1:Int) (0:Int) false (IntKind.wrap .i64 (x6+(1:Int))) o0_0 o0_1 o0_2 o0_3 o0_4 μ) (kS ρ H98 [.seq (cA 98 [1,1,1,1,1,1,1,1,1,1])] [(4,0)])))) (
 opt (di ρ x0 x1 x5 x6 x10 x11 (1:Int) (0:Int) false (IntKind.wrap .i64 (x6+(1:Int))) o0_0 o0_1 o0_2 o0_3 o0_4 μ) (kS ρ H98 [.seq (cA 98 [1,1,1,1,1,1,1,1,1,1])] [(4,0)]))) (
 opt (bn x0 x6) fun y103=>
 cond (decide ((y103.toNat : Int) = (101 : Int))) (
 cond (decide (IntKind.wrap .i64 (x6 + (1 : Int)) < (List.length x0 : Int))) (
 opt (bn x0 (IntKind.wrap .i64 (x6+(1:Int)))) fun y104=>
 cond (decide ((y104.toNat : Int) = (43 : Int))) (
 opt (di ρ x0 x1 x5 x6 x10 x11 (1:Int) (0:Int) false (IntKind.wrap .i64 (IntKind.wrap .i64 (x6+(1:Int))+(1:Int))) o0_0 o0_1 o0_2 o0_3 o0_4 μ) (kS ρ H98 [.seq (cA 98 [1,1,1,1,1,1,1,1,1,1])] [(4,0)])) (
 opt (bn x0 (IntKind.wrap .i64 (x6+(1:Int)))) fun y106=>
 cond (decide ((y106.toNat : Int) = (45 : Int))) (
 opt (di ρ x0 x1 x5 x6 x10 x11 (1:Int) (0:Int) false (IntKind.wrap .i64 (IntKind.wrap .i64 (x6+(1:Int))+(1:Int))) o0_0 o0_1 o0_2 o0_3 o0_4 μ) (kS ρ H98 [.seq (cA 98 [1,1,1,1,1,1,1,1,1,1])] [(4,0)])) (
 opt (di ρ x0 x1 x5 x6 x10 x11 (1:Int) (0:Int) false (IntKind.wrap .i64 (x6+(1:Int))) o0_0 o0_1 o0_2 o0_3 o0_4 μ) (kS ρ H98 [.seq (cA 98 [1,1,1,1,1,1,1,1,1,1])] [(4,0)])))) (
 opt (di ρ x0 x1 x5 x6 x10 x11 (1:Int) (0:Int) false (IntKind.wrap .i64 (x6+(1:Int))) o0_0 o0_1 o0_2 o0_3 o0_4 μ) (kS ρ H98 [.seq (cA 98 [1,1,1,1,1,1,1,1,1,1])] [(4,0)]))) (
 opt (bn x0 x6) fun y110=>
 cond (decide ((y110.toNat : Int) = (68 : Int))) (
 cond (decide (IntKind.wrap .i64 (x6 + (1 : Int)) < (List.length x0 : Int))) (
 opt (bn x0 (IntKind.wrap .i64 (x6+(1:Int)))) fun y111=>
 cond (decide ((y111.toNat : Int) = (43 : Int))) (
 opt (di ρ x0 x1 x5 x6 x10 x11 (1:Int) (0:Int) false (IntKind.wrap .i64 (IntKind.wrap .i64 (x6+(1:Int))+(1:Int))) o0_0 o0_1 o0_2 o0_3 o0_4 μ) (kS ρ H98 [.seq (cA 98 [1,1,1,1,1,1,1,1,1,1])] [(4,0)])) (
 opt (bn x0 (IntKind.wrap .i64 (x6+(1:Int)))) fun y113=>
 cond (decide ((y113.toNat : Int) = (45 : Int))) (
 opt (di ρ x0 x1 x5 x6 x10 x11 (1:Int) (0:Int) false (IntKind.wrap .i64 (IntKind.wrap .i64 (x6+(1:Int))+(1:Int))) o0_0 o0_1 o0_2 o0_3 o0_4 μ) (kS ρ H98 [.seq (cA 98 [1,1,1,1,1,1,1,1,1,1])] [(4,0)])) (
 opt (di ρ x0 x1 x5 x6 x10 x11 (1:Int) (0:Int) false (IntKind.wrap .i64 (x6+(1:Int))) o0_0 o0_1 o0_2 o0_3 o0_4 μ) (kS ρ H98 [.seq (cA 98 [1,1,1,1,1,1,1,1,1,1])] [(4,0)])))) (
 opt (di ρ x0 x1 x5 x6 x10 x11 (1:Int) (0:Int) false (IntKind.wrap .i64 (x6+(1:Int))) o0_0 o0_1 o0_2 o0_3 o0_4 μ) (kS ρ H98 [.seq (cA 98 [1,1,1,1,1,1,1,1,1,1])] [(4,0)]))) (
 opt (bn x0 x6) fun y117=>
 cond (decide ((y117.toNat : Int) = (100 : Int))) (
 cond (decide (IntKind.wrap .i64 (x6 + (1 : Int)) < (List.length x0 : Int))) (
 opt (bn x0 (IntKind.wrap .i64 (x6+(1:Int)))) fun y118=>
 cond (decide ((y118.toNat : Int) = (43 : Int))) (
 opt (di ρ x0 x1 x5 x6 x10 x11 (1:Int) (0:Int) false (IntKind.wrap .i64 (IntKind.wrap .i64 (x6+(1:Int))+(1:Int))) o0_0 o0_1 o0_2 o0_3 o0_4 μ) (kS ρ H98 [.seq (cA 98 [1,1,1,1,1,1,1,1,1,1])] [(4,0)])) (
 opt (bn x0 (IntKind.wrap .i64 (x6+(1:Int)))) fun y120=>
 cond (decide ((y120.toNat : Int) = (45 : Int))) (
 opt (di ρ x0 x1 x5 x6 x10 x11 (1:Int) (0:Int) false (IntKind.wrap .i64 (IntKind.wrap .i64 (x6+(1:Int))+(1:Int))) o0_0 o0_1 o0_2 o0_3 o0_4 μ) (kS ρ H98 [.seq (cA 98 [1,1,1,1,1,1,1,1,1,1])] [(4,0)])) (
 opt (di ρ x0 x1 x5 x6 x10 x11 (1:Int) (0:Int) false (IntKind.wrap .i64 (x6+(1:Int))) o0_0 o0_1 o0_2 o0_3 o0_4 μ) (kS ρ H98 [.seq (cA 98 [1,1,1,1,1,1,1,1,1,1])] [(4,0)])))) (
 opt (di ρ x0 x1 x5 x6 x10 x11 (1:Int) (0:Int) false (IntKind.wrap .i64 (x6+(1:Int))) o0_0 o0_1 o0_2 o0_3 o0_4 μ) (kS ρ H98 [.seq (cA 98 [1,1,1,1,1,1,1,1,1,1])] [(4,0)]))) (
 opt (oB ρ x0 x1 x5 x6 x10 x11 (1:Int) (0:Int) false o0_0 o0_1 o0_2 o0_3 o0_4 μ) (kS ρ H98 [] [(4,0)])))))) (
 opt (oB ρ x0 x1 x5 x6 x10 x11 (1:Int) (0:Int) false o0_0 o0_1 o0_2 o0_3 o0_4 μ) (kS ρ H98 [] [(4,0)]))) (
 opt (oB ρ x0 x1 x5 x6 x10 x11 (1:Int) (0:Int) false o0_0 o0_1 o0_2 o0_3 o0_4 μ) (kS ρ H98 [] [(4,0)])):=by kernel_rfl
theorem uh (o0_0 o0_1 o0_2 o0_3 o0_4 μ):kB ρ 98 H98 [] (gc o0_0 o0_1 o0_2 o0_3 o0_4 μ)=
 some (.ret (LV.cv (CV.agg [CV.int .i64 o0_0,CV.int .i64 o0_1,CV.str o0_2,CV.int .i64 o0_3,CV.int .i64 o0_4])) μ):=by kernel_rfl
theorem I4 (x0 x1 x5 x6 x7 o0_0 o0_1 o0_2 o0_3 o0_4 μ):kB ρ 98 H98 [.block 0,.seq (cA 98 [1,1,1,1,1])] (vA x0 x1 x5 x6 x7 o0_0 o0_1 o0_2 o0_3 o0_4 μ)=
 cond (!x7) (
 cond (decide (x6 < (List.length x0 : Int))) (
 opt (bn x0 x6) fun y18=>
 cond (decide ((y18.toNat : Int) = (46 : Int))) (
 callK (ρ.call 47 [LV.str x0, LV.int .i64 (IntKind.wrap .i64 (x6 + (1 : Int)))] μ) (fun v19 μ20 =>
 opt (aF .i64 v19) fun n23=>
 opt (oA ρ x0 x1 x5 (IntKind.wrap .i64 (IntKind.wrap .i64 (x6+(1:Int))+n23)) x7 true n23 o0_0 o0_1 o0_2 o0_3 o0_4 μ20) (kB ρ 98 H98 [])) pP) (
 opt (oA ρ x0 x1 x5 x6 x7 false (0:Int) o0_0 o0_1 o0_2 o0_3 o0_4 μ) (kB ρ 98 H98 []))) (
 opt (oA ρ x0 x1 x5 x6 x7 false (0:Int) o0_0 o0_1 o0_2 o0_3 o0_4 μ) (kB ρ 98 H98 []))) (
 opt (oA ρ x0 x1 x5 x6 x7 false (0:Int) o0_0 o0_1 o0_2 o0_3 o0_4 μ) (kB ρ 98 H98 [])):=by kernel_rfl
theorem VJ (a b μ):aC E ρ 98 [LV.str a,LV.int .i64 b] μ=
 callK (ρ.call 47 [LV.str a, LV.int .i64 b] μ) (fun v1 μ2 =>
 opt (aF .i64 v1) fun n5=>
 callK (ρ.call 55 [] μ2) (fun v6 μ7 =>
 opt (eX v6) fun l10=>
 aB (fL 1 l10 [CV.str ([46, 84, 82, 85, 69, 46] : List UInt8), CV.str ([46, 70, 65, 76, 83, 69, 46] : List UInt8)]) (
 opt (wm ρ a b n5 (IntKind.wrap .i64 (b+n5)) false (l10++[CV.str ([46,84,82,85,69,46]:List UInt8),CV.str ([46,70,65,76,83,69,46]:List UInt8)]) (List.length (l10++[CV.str ([46,84,82,85,69,46]:List UInt8),CV.str ([46,70,65,76,83,69,46]:List UInt8)]):Int) (0:Int) (0:Int) (0:Int) ([]:List UInt8) (0:Int) (0:Int) μ7) (kB ρ 98 H98 [.block 0,.seq (cA 98 [1,1,1,1,1])]))) pP) pP:=by kernel_rfl
theorem VK (a b c μ):aC E ρ 99 [LV.str a,LV.int .i64 b,LV.str c] μ=
 cond (decide (IntKind.wrap .i64 (b + (List.length c : Int)) ≤ (List.length a : Int))) (
 opt (dk a b (IntKind.wrap .i64 (b+(List.length c:Int)))) fun s1=>
 callK (ρ.call 97 [LV.str s1] μ) (fun v2 μ3 =>
 opt (aL v2) fun s6=>
 some (.ret (LV.bool (decide (s6=c))) μ3)) pP) (
 some (.ret (LV.bool false) μ)):=by kernel_rfl
theorem TY (μ):aC E ρ 100 [] μ=
 some (.ret (LV.osl [CV.agg [CV.str ([60,61]:List UInt8),CV.str ([46,76,69,46]:List UInt8)],CV.agg [CV.str ([62,61]:List UInt8),CV.str ([46,71,69,46]:List UInt8)],CV.agg [CV.str ([61,61]:List UInt8),CV.str ([46,69,81,46]:List UInt8)],CV.agg [CV.str ([47,61]:List UInt8),CV.str ([46,78,69,46]:List UInt8)],CV.agg [CV.str ([60]:List UInt8),CV.str ([46,76,84,46]:List UInt8)],CV.agg [CV.str ([62]:List UInt8),CV.str ([46,71,84,46]:List UInt8)]]) μ):=by kernel_rfl
theorem TZ (a μ):aC E ρ 114 [LV.int .u8 a] μ=
 callK (ρ.call 23 [LV.int .i64 (IntKind.wrap .i64 a), LV.int .i64 (48 : Int), LV.int .i64 (57 : Int)] μ) (fun v1 μ2 =>
 opt (aM v1) fun b5=>
 some (.ret (LV.bool b5) μ2)) pP:=by kernel_rfl
theorem T3 (a μ):aC E ρ 117 [LV.str a] μ=
 cond (decide ((1320 : Int) < (List.length a : Int))) (
 some (.ret (LV.int .i64 (8:Int)) μ)) (
 callK (ρ.call 85 [LV.str a] μ) (fun v1 μ2 =>
 opt (aM v1) fun b5=>
 cond (!b5) (
 some (.ret (LV.int .i64 (3:Int)) μ2)) (
 some (.ret (LV.int .i64 (0:Int)) μ2))) pP):=by kernel_rfl
def Fo (x0l x0i:Nat)(x2 o0_0:Int):SegD:=⟨lV,[(0,0),(2,0),(3,0),(6,0)],cA 118 [1,1,0,0],mS [(0,LV.cv (CV.ref x0l x0i 0)),(2,LV.int .i64 x2),(3,LV.loc 0 0),(6,LV.lclo 147 [LV.loc 0 0])] [Ob.cells [LV.int .i64 o0_0]]⟩
def AD (x0l x0i:Nat)(x2 o0_0:Int)(μ:Mu):=(Fo x0l x0i x2 o0_0).loop ρ μ
def Bl (x0l x0i:Nat)(x2 o0_0:Int):SegD:=⟨lV,[(0,0),(2,0),(3,0),(6,0)],cA 118 [1,1,0,0,0,0,0,0],mS [(0,LV.cv (CV.ref x0l x0i 0)),(2,LV.int .i64 x2),(3,LV.loc 0 0),(6,LV.lclo 147 [LV.loc 0 0])] [Ob.cells [LV.int .i64 o0_0]]⟩
def xV (x0l x0i:Nat)(x2 o0_0:Int)(μ:Mu):=(Bl x0l x0i x2 o0_0).loop ρ μ
def md (x0l x0i:Nat)(x2 o0_0:Int)(μ:Mu):St:= .exit 2 (mS [(0,LV.cv (CV.ref x0l x0i 0)),(2,LV.int .i64 x2),(3,LV.loc 0 0),(6,LV.lclo 147 [LV.loc 0 0])] [Ob.cells [LV.int .i64 o0_0]]) μ
def rE (x2 o0_0:Int)(μ:Mu):St:= .ret (mS [(2,LV.int .i64 x2),(3,LV.loc 0 0),(6,LV.lclo 147 [LV.loc 0 0])] [Ob.cells [LV.int .i64 o0_0]]) μ
def EH (x0l x0i:Nat)(x2 o0_0:Int):SegD:=⟨lV,[(0,0),(2,0),(3,0),(6,0)],cA 118 [1,1,0,0,0,1,1],mS [(0,LV.cv (CV.ref x0l x0i 0)),(2,LV.int .i64 x2),(3,LV.loc 0 0),(6,LV.lclo 147 [LV.loc 0 0])] [Ob.cells [LV.int .i64 o0_0]]⟩
def At (x0l x0i:Nat)(x2 o0_0:Int)(μ:Mu):=(EH x0l x0i x2 o0_0).seg ρ μ
def re (x0l x0i:Nat)(x2 o0_0:Int)(μ:Mu):St:= .norm (mS [(0,LV.cv (CV.ref x0l x0i 0)),(2,LV.int .i64 x2),(3,LV.loc 0 0),(6,LV.lclo 147 [LV.loc 0 0])] [Ob.cells [LV.int .i64 o0_0]]) μ
def rf (pv:CV)(x2 o0_0:Int)(μ:Mu):St:= .panic pv (mS [(2,LV.int .i64 x2),(3,LV.loc 0 0),(6,LV.lclo 147 [LV.loc 0 0])] [Ob.cells [LV.int .i64 o0_0]]) μ
def rF (pv:CV)(x2 o0_0:Int)(μ:Mu):St:= .panic pv (mS [(2,LV.int .i64 x2),(3,LV.loc 0 0),(6,LV.lclo 147 [LV.loc 0 0])] [Ob.cells [LV.int .i64 o0_0]]) μ
theorem zg (x0l x0i x2 o0_0 μ):(Bl x0l x0i x2 o0_0).rK ρ μ=
 opt (bB E.P 9 (a8 μ x0l x0i) 0) fun v1=>
 opt (aL v1) fun s2=>
 cond (decide (x2 < (List.length s2 : Int))) (
 opt (bB E.P 9 (a8 μ x0l x0i) 0) fun v3=>
 opt (aL v3) fun s4=>
 opt (bn s4 x2) fun y5=>
 cond (decide ((y5.toNat : Int) = (32 : Int))) (
 xV ρ x0l x0i (IntKind.wrap .i64 (x2+(1:Int))) o0_0 μ) (
 some (md x0l x0i x2 o0_0 μ))) (
 some (md x0l x0i x2 o0_0 μ)):=by kernel_rfl
theorem BN (x0l x0i x2 o0_0 μ):(EH x0l x0i x2 o0_0).sK ρ μ=
 callK (ρ.call 148 [LV.cv (CV.ref x0l x0i 0), LV.int .i64 x2] μ) (fun v8 μ9 =>
 opt (aS v8) fun xs12=>
 opt (aA xs12) fun q13=>
 cT q13.1 fun n14 n15 s16=>
 opt (aA q13.2) fun q17=>
 opt (aF .i64 q17.1) fun n18=>
 opt (aO q17.2) fun u19=>
 opt (ie E.P 32 (a8 μ9 x0l x0i) 2) fun r20=>
 opt (eX r20.1) fun l21=>
 aB (fL 3 l21 [CV.agg [CV.int .i64 n14, CV.int .i64 n15, CV.str s16]]) (
 aB (bN (x0l + 1) (l21 ++ [CV.agg [CV.int .i64 n14, CV.int .i64 n15, CV.str s16]])) (
 opt (bI E.P 32 (a8 (bD μ9 x0l x0i r20.2) x0l x0i) 2 (LV.osl (l21++[CV.agg [CV.int .i64 n14,CV.int .i64 n15,CV.str s16]]))) fun o22=>
 some (re x0l x0i n18 o0_0 (bD (bD μ9 x0l x0i r20.2) x0l x0i o22))))) (fun v11 μ10=>
 some (rf v11 x2 o0_0 μ10)):=by kernel_rfl
theorem Dk (x0l x0i x2 o0_0 μ):kR ρ lV [.block 1] [(0,0),(2,0),(3,0),(6,0)] (cA 118 [1,1,0,0]) (re x0l x0i x2 o0_0 μ)=
 AD ρ x0l x0i x2 o0_0 μ:=by kernel_rfl
theorem Dl (pv x2 o0_0 μ):kR ρ lV [.block 1] [(0,0),(2,0),(3,0),(6,0)] (cA 118 [1,1,0,0]) (rf pv x2 o0_0 μ)=
 some (rF pv x2 o0_0 μ):=by kernel_rfl
theorem B7 (x0l x0i x2 o0_0 μ):kR ρ lV [.block 2,.seq (cA 118 [1,1,0,0,0,1]),.block 1] [(0,0),(2,0),(3,0),(6,0)] (cA 118 [1,1,0,0]) (md x0l x0i x2 o0_0 μ)=
 opt (bB E.P 9 (a8 μ x0l x0i) 0) fun v6=>
 opt (aL v6) fun s7=>
 cond (decide ((List.length s7 : Int) ≤ x2)) (
 some (rE (0:Int) (0:Int) μ)) (
 opt (At ρ x0l x0i x2 o0_0 μ) (kR ρ lV [.block 1] [(0,0),(2,0),(3,0),(6,0)] (cA 118 [1,1,0,0]))):=by kernel_rfl
theorem Ox (x0l x0i x2 o0_0 μ):(Fo x0l x0i x2 o0_0).rK ρ μ=
 opt (xV ρ x0l x0i x2 o0_0 μ) (kR ρ lV [.block 2,.seq (cA 118 [1,1,0,0,0,1]),.block 1] [(0,0),(2,0),(3,0),(6,0)] (cA 118 [1,1,0,0])):=by kernel_rfl
theorem DT (x2 o0_0 μ):iQ E.P ρ lV [.block 0] (rE x2 o0_0 μ) (yg E.P ρ 6 (Am E.P 118))=
 opt (ρ.dcall 147 none [LV.cv (CV.ref (List.length μ) 0 0)] (μ++[[Ob.cells [LV.int .i64 o0_0]]])) fun μ25=>
 opt (dz μ25) fun q26=>
 opt (opt (opt (bB E.P 25 (aH q26.2 0) 0) fun v27 =>
 some [v27]) fun l28=>some (LV.int .i64 x2::l28)) fun l29=>aB (oN (eA l29)) (aB (fD (List.length q26.1) (eA l29)) (some (.ret (eA l29) q26.1))):=by kernel_rfl
theorem DU (pv x2 o0_0 μ):iQ E.P ρ lV [.block 0] (rF pv x2 o0_0 μ) (yg E.P ρ 6 (Am E.P 118))=
 opt (ρ.dcall 147 (some pv) [LV.cv (CV.ref (List.length μ) 0 0)] (μ++[[Ob.cells [LV.int .i64 o0_0]]])) fun μ30=>
 opt (dz μ30) fun q31=>
 opt (opt (opt (bB E.P 25 (aH q31.2 0) 0) fun v32 =>
 some [v32]) fun l33=>some (LV.int .i64 x2::l33)) fun l34=>aB (oN (eA l34)) (aB (fD (List.length q31.1) (eA l34)) (some (.ret (eA l34) q31.1))):=by kernel_rfl
theorem T4 (al ai μ):aC E ρ 118 [LV.cv (CV.ref al ai 0)] μ=
 opt (AD ρ al ai (0:Int) (0:Int) μ) fun st35=>iQ E.P ρ lV [.block 0] st35 (yg E.P ρ 6 (Am E.P 118)):=by kernel_rfl
def Fp (x0:List UInt8)(x3 x4:Int):SegD:=⟨GC,[(3,0)],cA 120 [1,1,0,1,0,0],mS [(0,LV.str x0),(3,LV.int .i64 x3),(4,LV.int .i64 x4)] []⟩
def AE (x0:List UInt8)(x3 x4:Int)(μ:Mu):=(Fp x0 x3 x4).loop ρ μ
def rG (x3:Int)(μ:Mu):St:= .exit 0 (mS [(3,LV.int .i64 x3)] []) μ
theorem BQ (x0 x3 x4 μ):(Fp x0 x3 x4).rK ρ μ=
 cond (decide (x4 < (List.length x0 : Int))) (
 opt (bn x0 x4) fun y1=>
 AE ρ x0 (IntKind.wrap .i64 (IntKind.wrap .i64 ((10:Int)*x3)+IntKind.wrap .i64 (IntKind.wrap .u8 ((y1.toNat:Int) -(48:Int))))) (IntKind.wrap .i64 (x4+(1:Int))) μ) (
 some (rG x3 μ)):=by kernel_rfl
theorem DV (x3 μ):kB ρ 120 GC [.block 0,.seq (cA 120 [1,1,1])] (rG x3 μ)=
 some (.ret (LV.int .i64 x3) μ):=by kernel_rfl
theorem T5 (a μ):aC E ρ 120 [LV.str a] μ=
 opt (AE ρ a (0:Int) (0:Int) μ) (kB ρ 120 GC [.block 0,.seq (cA 120 [1,1,1])]):=by kernel_rfl
theorem T6 (a μ):aC E ρ 132 [LV.int .u8 a] μ=
 cond (decide ((48 : Int) ≤ a)) (
 some (.ret (LV.bool (decide (a≤(57:Int)))) μ)) (
 some (.ret (LV.bool false) μ)):=by kernel_rfl
theorem T7 (a μ):aC E ρ 133 [LV.int .u8 a] μ=
 callK (ρ.call 23 [LV.int .i64 (IntKind.wrap .i64 (IntKind.wrap .u8 ((BitVec.ofInt (IntKind.bits .u8) a ||| BitVec.ofInt (IntKind.bits .u8) (32 : Int)).toNat : Int))), LV.int .i64 (97 : Int), LV.int .i64 (122 : Int)] μ) (fun v1 μ2 =>
 opt (aM v1) fun b5=>
 some (.ret (LV.bool b5) μ2)) pP:=by kernel_rfl
def Fq (x0:List UInt8):SegD:=⟨GD,[(0,0)],cA 134 [1,0,0,0],mS [(0,LV.str x0)] []⟩
def AF (x0:List UInt8)(μ:Mu):=(Fq x0).loop ρ μ
def nC (x0:List UInt8)(μ:Mu):St:= .exit 0 (mS [(0,LV.str x0)] []) μ
theorem vN (x0 μ):(Fq x0).rK ρ μ=
 cond (decide ((1 : Int) < (List.length x0 : Int))) (
 opt (bn x0 (IntKind.wrap .i64 ((List.length x0:Int) -(1:Int)))) fun y1=>
 cond (decide ((y1.toNat : Int) = (48 : Int))) (
 opt (dk x0 (0:Int) (IntKind.wrap .i64 ((List.length x0:Int) -(1:Int)))) fun s2=>
 AF ρ s2 μ) (
 some (nC x0 μ))) (
 some (nC x0 μ)):=by kernel_rfl
theorem DW (x0 μ):kB ρ 134 GD [.block 0,.seq (cA 134 [1,1])] (nC x0 μ)=
 some (.ret (LV.str x0) μ):=by kernel_rfl
theorem T8 (a μ):aC E ρ 134 [LV.str a] μ=
 opt (AF ρ a μ) (kB ρ 134 GD [.block 0,.seq (cA 134 [1,1])]):=by kernel_rfl
theorem T9 (a μ):aC E ρ 135 [LV.str a] μ=
 cond (decide (a = ([48] : List UInt8))) (
 some (.ret (LV.int .i64 (0:Int)) μ)) (
 some (.ret (LV.int .i64 (List.length a:Int)) μ)):=by kernel_rfl
theorem QI (al ai μ):gd E ρ 147 none [LV.cv (CV.ref al ai 0)] μ=
 some μ:=by kernel_rfl
theorem QJ (e al ai μ):gd E ρ 147 (some (CV.iface 162 (CV.agg [CV.int .i64 e]))) [LV.cv (CV.ref al ai 0)] μ=
 opt (bI E.P 25 (a8 μ al ai) 0 (LV.int .i64 e)) fun o1=>
 some (bD μ al ai o1):=by kernel_rfl
def EJ (x0l x0i:Nat)(x1 x6 o0_0 o0_1:Int)(o0_2:List UInt8):SegD:=⟨eF,[(4,0),(5,0)],cA 148 [1,1,1],mS [(0,LV.cv (CV.ref x0l x0i 0)),(1,LV.int .i64 x1),(4,LV.loc 0 0),(6,LV.int .u8 x6)] [Ob.cells [LV.int .i64 o0_0,LV.int .i64 o0_1,LV.str o0_2]]⟩
def qZ (x0l x0i:Nat)(x1 x6 o0_0 o0_1:Int)(o0_2:List UInt8)(μ:Mu):=(EJ x0l x0i x1 x6 o0_0 o0_1 o0_2).seg ρ μ
def cR (x5 o0_0 o0_1:Int)(o0_2:List UInt8)(μ:Mu):St:= .ret (mS [(4,LV.loc 0 0),(5,LV.int .i64 x5)] [Ob.cells [LV.int .i64 o0_0,LV.int .i64 o0_1,LV.str o0_2]]) μ
def bC (pv:CV)(μ:Mu):St:= .panic pv (mS [] []) μ
def Bb (x14:List UInt8)(x15 o0_0 o0_1:Int)(o0_2:List UInt8):SegD:=⟨eF,[(0,0),(1,0),(4,0)],cA 148 [1,1,1,1,0,0,1,1,1,1,1,0,1,1],mS [(4,LV.loc 0 0),(14,LV.str x14),(15,LV.int .i64 x15)] [Ob.cells [LV.int .i64 o0_0,LV.int .i64 o0_1,LV.str o0_2]]⟩
def jm (x14:List UInt8)(x15 o0_0 o0_1:Int)(o0_2:List UInt8)(μ:Mu):=(Bb x14 x15 o0_0 o0_1 o0_2).seg ρ μ
def jP (x5 o0_0 o0_1:Int)(o0_2:List UInt8)(μ:Mu):St:= .ret (mS [(4,LV.loc 0 0),(5,LV.int .i64 x5)] [Ob.cells [LV.int .i64 o0_0,LV.int .i64 o0_1,LV.str o0_2]]) μ
def Bc (x0l x0i:Nat)(x1 o0_0 o0_1:Int)(o0_2:List UInt8):SegD:=⟨eF,[(4,0),(5,0)],cA 148 [1,1,1,1,1],mS [(0,LV.cv (CV.ref x0l x0i 0)),(1,LV.int .i64 x1),(4,LV.loc 0 0)] [Ob.cells [LV.int .i64 o0_0,LV.int .i64 o0_1,LV.str o0_2]]⟩
def ow (x0l x0i:Nat)(x1 o0_0 o0_1:Int)(o0_2:List UInt8)(μ:Mu):=(Bc x0l x0i x1 o0_0 o0_1 o0_2).seg ρ μ
def pt (x5 o0_0 o0_1:Int)(o0_2:List UInt8)(μ:Mu):St:= .ret (mS [(4,LV.loc 0 0),(5,LV.int .i64 x5)] [Ob.cells [LV.int .i64 o0_0,LV.int .i64 o0_1,LV.str o0_2]]) μ
def pw (pv:CV)(μ:Mu):St:= .panic pv (mS [] []) μ
theorem LU (x14 x15 o0_0 o0_1 o0_2 μ):(Bb x14 x15 o0_0 o0_1 o0_2).sK ρ μ=
 cond (decide (x14 = ([46, 84, 82, 85, 69, 46] : List UInt8))) (
 some (jP x15 (1:Int) (5:Int) x14 μ)) (
 cond (decide (x14 = ([46, 70, 65, 76, 83, 69, 46] : List UInt8))) (
 some (jP x15 (1:Int) (5:Int) x14 μ)) (
 some (jP x15 (2:Int) (0:Int) x14 μ))):=by kernel_rfl
theorem BX (x5 o0_0 o0_1 o0_2 μ):kS ρ eF [.block 0,.seq (cA 148 [1,1,1,1,1])] [(4,0),(5,0)] (jP x5 o0_0 o0_1 o0_2 μ)=
 some (cR x5 o0_0 o0_1 o0_2 μ):=by kernel_rfl
theorem LW (x0l x0i x1 o0_0 o0_1 o0_2 μ):(Bc x0l x0i x1 o0_0 o0_1 o0_2).sK ρ μ=
 callK (ρ.call 174 [LV.cv (CV.ref x0l x0i 0), LV.int .i64 x1] μ) (fun v147 μ148 =>
 opt (aS v147) fun xs151=>
 opt (aA xs151) fun q152=>
 cT q152.1 fun n153 n154 s155=>
 opt (aA q152.2) fun q156=>
 opt (aF .i64 q156.1) fun n157=>
 opt (aO q156.2) fun u158=>
 some (pt n157 n153 n154 s155 μ148)) (pX pw):=by kernel_rfl
theorem BY (x5 o0_0 o0_1 o0_2 μ):kS ρ eF [] [(4,0),(5,0)] (pt x5 o0_0 o0_1 o0_2 μ)=
 some (cR x5 o0_0 o0_1 o0_2 μ):=by kernel_rfl
theorem BZ (pv μ):kS ρ eF [] [(4,0),(5,0)] (pw pv μ)=
 some (bC pv μ):=by kernel_rfl
theorem NV (x0l x0i x1 x6 o0_0 o0_1 o0_2 μ):(EJ x0l x0i x1 x6 o0_0 o0_1 o0_2).sK ρ μ=
 callK (ρ.call 168 [LV.cv (CV.ref x0l x0i 0), LV.int .i64 (IntKind.wrap .i64 (x1 + (1 : Int)))] μ) (fun v28 μ29 =>
 opt (aS v28) fun xs32=>
 opt (aA xs32) fun q33=>
 opt (aF .u8 q33.1) fun n34=>
 opt (aA q33.2) fun q35=>
 opt (aF .i64 q35.1) fun n36=>
 opt (aO q35.2) fun u37=>
 callK (ρ.call 90 [LV.int .u8 x6] μ29) (fun v38 μ39 =>
 opt (aM v38) fun b42=>
 cond (b42) (
 callK (ρ.call 169 [LV.cv (CV.ref x0l x0i 0), LV.int .i64 x1, LV.cv (CV.clo 93 [])] μ39) (fun v43 μ44 =>
 opt (aS v43) fun xs47=>
 opt (aA xs47) fun q48=>
 opt (aL q48.1) fun s49=>
 opt (aA q48.2) fun q50=>
 opt (aF .i64 q50.1) fun n51=>
 opt (aO q50.2) fun u52=>
 cond (decide ((31 : Int) < (List.length s49 : Int))) (
 callK (ρ.call 170 [LV.int .i64 (4 : Int)] μ44) (fun v53 μ54 =>
 opt (aS v53) fun xs57=>
 opt (aO xs57) fun u58=>
 callK (ρ.call 91 [LV.str s49] μ54) (fun v59 μ60 =>
 opt (aL v59) fun s63=>
 some (cR n51 (0:Int) (0:Int) s63 μ60)) (pX bC)) (pX bC)) (
 callK (ρ.call 91 [LV.str s49] μ44) (fun v64 μ65 =>
 opt (aL v64) fun s68=>
 some (cR n51 (0:Int) (0:Int) s68 μ65)) (pX bC))) (pX bC)) (
 callK (ρ.call 132 [LV.int .u8 x6] μ39) (fun v69 μ70 =>
 opt (aM v69) fun b73=>
 cond (b73) (
 callK (ρ.call 171 [LV.cv (CV.ref x0l x0i 0), LV.int .i64 x1] μ70) (fun v74 μ75 =>
 opt (aS v74) fun xs78=>
 opt (aA xs78) fun q79=>
 cT q79.1 fun n80 n81 s82=>
 opt (aA q79.2) fun q83=>
 opt (aF .i64 q83.1) fun n84=>
 opt (aO q83.2) fun u85=>
 some (cR n84 n80 n81 s82 μ75)) (pX bC)) (
 cond (decide (x6 = (46 : Int))) (
 callK (ρ.call 132 [LV.int .u8 n34] μ70) (fun v86 μ87 =>
 opt (aM v86) fun b90=>
 cond (b90) (
 callK (ρ.call 171 [LV.cv (CV.ref x0l x0i 0), LV.int .i64 x1] μ87) (fun v91 μ92 =>
 opt (aS v91) fun xs95=>
 opt (aA xs95) fun q96=>
 cT q96.1 fun n97 n98 s99=>
 opt (aA q96.2) fun q100=>
 opt (aF .i64 q100.1) fun n101=>
 opt (aO q100.2) fun u102=>
 some (cR n101 n97 n98 s99 μ92)) (pX bC)) (
 cond (decide (x6 = (46 : Int))) (
 callK (ρ.call 172 [LV.cv (CV.ref x0l x0i 0), LV.int .i64 x1] μ87) (fun v103 μ104 =>
 opt (aS v103) fun xs107=>
 opt (aA xs107) fun q108=>
 opt (aL q108.1) fun s109=>
 opt (aA q108.2) fun q110=>
 opt (aF .i64 q110.1) fun n111=>
 opt (aA q110.2) fun q112=>
 opt (aM q112.1) fun b113=>
 opt (aO q112.2) fun u114=>
 cond (!b113) (
 callK (ρ.call 170 [LV.int .i64 (7 : Int)] μ104) (fun v115 μ116 =>
 opt (aS v115) fun xs119=>
 opt (aO xs119) fun u120=>
 opt (jm ρ s109 n111 o0_0 o0_1 o0_2 μ116) (kS ρ eF [.block 0,.seq (cA 148 [1,1,1,1,1])] [(4,0),(5,0)])) (pX bC)) (
 opt (jm ρ s109 n111 o0_0 o0_1 o0_2 μ104) (kS ρ eF [.block 0,.seq (cA 148 [1,1,1,1,1])] [(4,0),(5,0)]))) (pX bC)) (
 cond (decide (x6 = (39 : Int))) (
 callK (ρ.call 173 [LV.cv (CV.ref x0l x0i 0), LV.int .i64 x1] μ87) (fun v123 μ124 =>
 opt (aS v123) fun xs127=>
 opt (aA xs127) fun q128=>
 cT q128.1 fun n129 n130 s131=>
 opt (aA q128.2) fun q132=>
 opt (aF .i64 q132.1) fun n133=>
 opt (aO q132.2) fun u134=>
 some (cR n133 n129 n130 s131 μ124)) (pX bC)) (
 cond (decide (x6 = (34 : Int))) (
 callK (ρ.call 173 [LV.cv (CV.ref x0l x0i 0), LV.int .i64 x1] μ87) (fun v135 μ136 =>
 opt (aS v135) fun xs139=>
 opt (aA xs139) fun q140=>
 cT q140.1 fun n141 n142 s143=>
 opt (aA q140.2) fun q144=>
 opt (aF .i64 q144.1) fun n145=>
 opt (aO q144.2) fun u146=>
 some (cR n145 n141 n142 s143 μ136)) (pX bC)) (
 opt (ow ρ x0l x0i x1 o0_0 o0_1 o0_2 μ87) (kS ρ eF [] [(4,0),(5,0)])))))) (pX bC)) (
 cond (decide (x6 = (46 : Int))) (
 callK (ρ.call 172 [LV.cv (CV.ref x0l x0i 0), LV.int .i64 x1] μ70) (fun v160 μ161 =>
 opt (aS v160) fun xs164=>
 opt (aA xs164) fun q165=>
 opt (aL q165.1) fun s166=>
 opt (aA q165.2) fun q167=>
 opt (aF .i64 q167.1) fun n168=>
 opt (aA q167.2) fun q169=>
 opt (aM q169.1) fun b170=>
 opt (aO q169.2) fun u171=>
 cond (!b170) (
 callK (ρ.call 170 [LV.int .i64 (7 : Int)] μ161) (fun v172 μ173 =>
 opt (aS v172) fun xs176=>
 opt (aO xs176) fun u177=>
 opt (jm ρ s166 n168 o0_0 o0_1 o0_2 μ173) (kS ρ eF [.block 0,.seq (cA 148 [1,1,1,1,1])] [(4,0),(5,0)])) (pX bC)) (
 opt (jm ρ s166 n168 o0_0 o0_1 o0_2 μ161) (kS ρ eF [.block 0,.seq (cA 148 [1,1,1,1,1])] [(4,0),(5,0)]))) (pX bC)) (
 cond (decide (x6 = (39 : Int))) (
 callK (ρ.call 173 [LV.cv (CV.ref x0l x0i 0), LV.int .i64 x1] μ70) (fun v180 μ181 =>
 opt (aS v180) fun xs184=>
 opt (aA xs184) fun q185=>
 cT q185.1 fun n186 n187 s188=>
 opt (aA q185.2) fun q189=>
 opt (aF .i64 q189.1) fun n190=>
 opt (aO q189.2) fun u191=>
 some (cR n190 n186 n187 s188 μ181)) (pX bC)) (
 cond (decide (x6 = (34 : Int))) (
 callK (ρ.call 173 [LV.cv (CV.ref x0l x0i 0), LV.int .i64 x1] μ70) (fun v192 μ193 =>
 opt (aS v192) fun xs196=>
 opt (aA xs196) fun q197=>
 cT q197.1 fun n198 n199 s200=>
 opt (aA q197.2) fun q201=>
 opt (aF .i64 q201.1) fun n202=>
 opt (aO q201.2) fun u203=>
 some (cR n202 n198 n199 s200 μ193)) (pX bC)) (
 opt (ow ρ x0l x0i x1 o0_0 o0_1 o0_2 μ70) (kS ρ eF [] [(4,0),(5,0)]))))))) (pX bC))) (pX bC)) (pX bC):=by kernel_rfl
theorem Do (x5 o0_0 o0_1 o0_2 μ):kB ρ 148 eF [] (cR x5 o0_0 o0_1 o0_2 μ)=
 some (.ret (LV.ltup [LV.cv (CV.agg [CV.int .i64 o0_0,CV.int .i64 o0_1,CV.str o0_2]),LV.int .i64 x5]) μ):=by kernel_rfl
theorem Dp (pv μ):kB ρ 148 eF [] (bC pv μ)=
 aB (below (List.length μ) pv) (some (.panic pv μ)):=by kernel_rfl
theorem Ua (al ai b μ):aC E ρ 148 [LV.cv (CV.ref al ai 0),LV.int .i64 b] μ=
 opt (bB E.P 9 (a8 μ al ai) 0) fun v1=>
 opt (aL v1) fun s2=>
 opt (bn s2 b) fun y3=>
 callK (ρ.call 166 [LV.cv (CV.ref al ai 0)] μ) (fun v4 μ5 =>
 opt (aM v4) fun b8=>
 cond (b8) (
 callK (ρ.call 132 [LV.int .u8 (y3.toNat : Int)] μ5) (fun v9 μ10 =>
 opt (aM v9) fun b13=>
 cond (b13) (
 callK (ρ.call 167 [LV.cv (CV.ref al ai 0), LV.int .i64 b] μ10) (fun v14 μ15 =>
 opt (aS v14) fun xs18=>
 opt (aA xs18) fun q19=>
 cT q19.1 fun n20 n21 s22=>
 opt (aA q19.2) fun q23=>
 opt (aF .i64 q23.1) fun n24=>
 opt (aA q23.2) fun q25=>
 opt (aM q25.1) fun b26=>
 opt (aO q25.2) fun u27=>
 cond (b26) (
 some (.ret (LV.ltup [LV.cv (CV.agg [CV.int .i64 n20,CV.int .i64 n21,CV.str s22]),LV.int .i64 n24]) μ15)) (
 opt (qZ ρ al ai b (y3.toNat:Int) (0:Int) (0:Int) ([]:List UInt8) μ15) (kB ρ 148 eF []))) pP) (
 opt (qZ ρ al ai b (y3.toNat:Int) (0:Int) (0:Int) ([]:List UInt8) μ10) (kB ρ 148 eF []))) pP) (
 opt (qZ ρ al ai b (y3.toNat:Int) (0:Int) (0:Int) ([]:List UInt8) μ5) (kB ρ 148 eF []))) pP:=by kernel_rfl
def EM (x0l x0i:Nat):SegD:=⟨uC,[(2,0)],cA 166 [1,1],mS [(0,LV.cv (CV.ref x0l x0i 0))] []⟩
def Ju (x0l x0i:Nat)(μ:Mu):=(EM x0l x0i).seg ρ μ
def nv (x2:Bool)(μ:Mu):St:= .ret (mS [(2,LV.bool x2)] []) μ
def EN (x0l x0i:Nat):SegD:=⟨uC,[(2,0)],cA 166 [1,1,1],mS [(0,LV.cv (CV.ref x0l x0i 0))] []⟩
def Jv (x0l x0i:Nat)(μ:Mu):=(EN x0l x0i).seg ρ μ
def nw (x2:Bool)(μ:Mu):St:= .ret (mS [(2,LV.bool x2)] []) μ
def JS (pv:CV)(μ:Mu):St:= .panic pv (mS [] []) μ
theorem NY (x0l x0i μ):(EN x0l x0i).sK ρ μ=
 opt (bB E.P 32 (a8 μ x0l x0i) 2) fun v5=>
 opt (bL v5) fun l6=>
 opt (bB E.P 32 (a8 μ x0l x0i) 2) fun v7=>
 opt (bL v7) fun l8=>
 opt (bY l6 (IntKind.wrap .i64 ((List.length l8:Int) -(1:Int)))) fun c9=>
 cT (LV.cv c9) fun n10 n11 s12=>
 cond (decide (n10 = (2 : Int))) (
 callK (ρ.call 50 [LV.osl [CV.str ([40] : List UInt8), CV.str ([44] : List UInt8), CV.str ([47] : List UInt8), CV.str ([61] : List UInt8)], LV.str s12] μ) (fun v13 μ14 =>
 opt (aM v13) fun b17=>
 some (nw b17 μ14)) (pX JS)) (
 some (nw false μ)):=by kernel_rfl
theorem Ds (x2 μ):kS ρ uC [] [(2,0)] (nw x2 μ)=
 some (nv x2 μ):=by kernel_rfl
theorem NX (x0l x0i μ):(EM x0l x0i).sK ρ μ=
 opt (bB E.P 32 (a8 μ x0l x0i) 2) fun v3=>
 opt (bL v3) fun l4=>
 cond (decide ((List.length l4 : Int) = (0 : Int))) (
 some (nv true μ)) (
 opt (Jv ρ x0l x0i μ) (kS ρ uC [] [(2,0)])):=by kernel_rfl
theorem Dr (x2 μ):kB ρ 166 uC [] (nv x2 μ)=
 some (.ret (LV.bool x2) μ):=by kernel_rfl
theorem Ub (al ai μ):aC E ρ 166 [LV.cv (CV.ref al ai 0)] μ=
 opt (bB E.P 4 (a8 μ al ai) 1) fun v1=>
 opt (aM v1) fun b2=>
 cond (!b2) (
 some (.ret (LV.bool false) μ)) (
 opt (Ju ρ al ai μ) (kB ρ 166 uC [])):=by kernel_rfl
def EO (x0l x0i:Nat)(x10 x11 o0_0 o0_1:Int)(o0_2:List UInt8):SegD:=⟨mK,[(4,0),(5,0),(6,0)],cA 167 [1,1,1,1,1],mS [(0,LV.cv (CV.ref x0l x0i 0)),(4,LV.loc 0 0),(10,LV.int .i64 x10),(11,LV.int .i64 x11)] [Ob.cells [LV.int .i64 o0_0,LV.int .i64 o0_1,LV.str o0_2]]⟩
def wg (x0l x0i:Nat)(x10 x11 o0_0 o0_1:Int)(o0_2:List UInt8)(μ:Mu):=(EO x0l x0i x10 x11 o0_0 o0_1 o0_2).seg ρ μ
def EP (x0l x0i:Nat)(x10 x11 o0_0 o0_1:Int)(o0_2:List UInt8):SegD:=⟨mK,[(4,0),(5,0),(6,0)],cA 167 [1,1,1,1,1,1],mS [(0,LV.cv (CV.ref x0l x0i 0)),(4,LV.loc 0 0),(10,LV.int .i64 x10),(11,LV.int .i64 x11)] [Ob.cells [LV.int .i64 o0_0,LV.int .i64 o0_1,LV.str o0_2]]⟩
def Av (x0l x0i:Nat)(x10 x11 o0_0 o0_1:Int)(o0_2:List UInt8)(μ:Mu):=(EP x0l x0i x10 x11 o0_0 o0_1 o0_2).seg ρ μ
def rk (x5:Int)(x6:Bool)(o0_0 o0_1:Int)(o0_2:List UInt8)(μ:Mu):St:= .ret (mS [(4,LV.loc 0 0),(5,LV.int .i64 x5),(6,LV.bool x6)] [Ob.cells [LV.int .i64 o0_0,LV.int .i64 o0_1,LV.str o0_2]]) μ
def yI (pv:CV)(μ:Mu):St:= .panic pv (mS [] []) μ
def ri (x5:Int)(x6:Bool)(o0_0 o0_1:Int)(o0_2:List UInt8)(μ:Mu):St:= .ret (mS [(4,LV.loc 0 0),(5,LV.int .i64 x5),(6,LV.bool x6)] [Ob.cells [LV.int .i64 o0_0,LV.int .i64 o0_1,LV.str o0_2]]) μ
def rj (pv:CV)(μ:Mu):St:= .panic pv (mS [] []) μ
theorem N1 (x0l x0i x10 x11 o0_0 o0_1 o0_2 μ):(EP x0l x0i x10 x11 o0_0 o0_1 o0_2).sK ρ μ=
 callK (ρ.call 189 [LV.cv (CV.ref x0l x0i 0), LV.int .i64 x10, LV.int .i64 (IntKind.wrap .i64 (x10 + x11))] μ) (fun v39 μ40 =>
 opt (aS v39) fun xs43=>
 opt (aO xs43) fun u44=>
 opt (bB E.P 9 (a8 μ40 x0l x0i) 0) fun v45=>
 opt (aL v45) fun s46=>
 opt (dk s46 x10 (IntKind.wrap .i64 (x10+x11))) fun s47=>
 callK (ρ.call 86 [LV.str s47] μ40) (fun v48 μ49 =>
 cT v48 fun n52 n53 s54=>
 some (rk (IntKind.wrap .i64 (x10+x11)) true n52 n53 s54 μ49)) (pX yI)) (pX yI):=by kernel_rfl
theorem Dv (x5 x6 o0_0 o0_1 o0_2 μ):kS ρ mK [] [(4,0),(5,0),(6,0)] (rk x5 x6 o0_0 o0_1 o0_2 μ)=
 some (ri x5 x6 o0_0 o0_1 o0_2 μ):=by kernel_rfl
theorem NZ (x0l x0i x10 x11 o0_0 o0_1 o0_2 μ):(EO x0l x0i x10 x11 o0_0 o0_1 o0_2).sK ρ μ=
 opt (bB E.P 9 (a8 μ x0l x0i) 0) fun v31=>
 opt (aL v31) fun s32=>
 cond (decide ((List.length s32 : Int) < IntKind.wrap .i64 (x10 + x11))) (
 callK (ρ.call 170 [LV.int .i64 (7 : Int)] μ) (fun v33 μ34 =>
 opt (aS v33) fun xs37=>
 opt (aO xs37) fun u38=>
 opt (Av ρ x0l x0i x10 x11 o0_0 o0_1 o0_2 μ34) (kS ρ mK [] [(4,0),(5,0),(6,0)])) (pX rj)) (
 opt (Av ρ x0l x0i x10 x11 o0_0 o0_1 o0_2 μ) (kS ρ mK [] [(4,0),(5,0),(6,0)])):=by kernel_rfl
theorem Dt (x5 x6 o0_0 o0_1 o0_2 μ):kB ρ 167 mK [] (ri x5 x6 o0_0 o0_1 o0_2 μ)=
 some (.ret (LV.ltup [LV.cv (CV.agg [CV.int .i64 o0_0,CV.int .i64 o0_1,CV.str o0_2]),LV.int .i64 x5,LV.bool x6]) μ):=by kernel_rfl
theorem Du (pv μ):kB ρ 167 mK [] (rj pv μ)=
 aB (below (List.length μ) pv) (some (.panic pv μ)):=by kernel_rfl
theorem Uc (al ai b μ):aC E ρ 167 [LV.cv (CV.ref al ai 0),LV.int .i64 b] μ=
 callK (ρ.call 169 [LV.cv (CV.ref al ai 0), LV.int .i64 b, LV.cv (CV.clo 132 [])] μ) (fun v1 μ2 =>
 opt (aS v1) fun xs5=>
 opt (aA xs5) fun q6=>
 opt (aL q6.1) fun s7=>
 opt (aA q6.2) fun q8=>
 opt (aF .i64 q8.1) fun n9=>
 opt (aO q8.2) fun u10=>
 callK (ρ.call 168 [LV.cv (CV.ref al ai 0), LV.int .i64 n9] μ2) (fun v11 μ12 =>
 opt (aS v11) fun xs15=>
 opt (aA xs15) fun q16=>
 opt (aF .u8 q16.1) fun n17=>
 opt (aA q16.2) fun q18=>
 opt (aF .i64 q18.1) fun n19=>
 opt (aO q18.2) fun u20=>
 callK (ρ.call 45 [LV.str s7] μ12) (fun v21 μ22 =>
 opt (aS v21) fun xs25=>
 opt (aA xs25) fun q26=>
 opt (aF .i64 q26.1) fun n27=>
 opt (aA q26.2) fun q28=>
 opt (dm q28.1) fun c29=>
 opt (aO q28.2) fun u30=>
 cond (decide ((2 : Int) < (List.length s7 : Int))) (
 some (.ret (LV.ltup [LV.cv (CV.agg [CV.int .i64 (0:Int),CV.int .i64 (0:Int),CV.str ([]:List UInt8)]),LV.int .i64 b,LV.bool false]) μ22)) (
 cond (decide (n27 < (1 : Int))) (
 some (.ret (LV.ltup [LV.cv (CV.agg [CV.int .i64 (0:Int),CV.int .i64 (0:Int),CV.str ([]:List UInt8)]),LV.int .i64 b,LV.bool false]) μ22)) (
 cond (decide ((60 : Int) < n27)) (
 some (.ret (LV.ltup [LV.cv (CV.agg [CV.int .i64 (0:Int),CV.int .i64 (0:Int),CV.str ([]:List UInt8)]),LV.int .i64 b,LV.bool false]) μ22)) (
 cond (!decide (n17 = (72 : Int))) (
 cond (!decide (n17 = (104 : Int))) (
 some (.ret (LV.ltup [LV.cv (CV.agg [CV.int .i64 (0:Int),CV.int .i64 (0:Int),CV.str ([]:List UInt8)]),LV.int .i64 b,LV.bool false]) μ22)) (
 opt (wg ρ al ai n19 n27 (0:Int) (0:Int) ([]:List UInt8) μ22) (kB ρ 167 mK []))) (
 opt (wg ρ al ai n19 n27 (0:Int) (0:Int) ([]:List UInt8) μ22) (kB ρ 167 mK [])))))) pP) pP) pP:=by kernel_rfl
def EQ (x0l x0i:Nat)(x1:Int):SegD:=⟨GE,[(4,0),(5,0)],cA 168 [1,1,1],mS [(0,LV.cv (CV.ref x0l x0i 0)),(1,LV.int .i64 x1)] []⟩
def Jw (x0l x0i:Nat)(x1:Int)(μ:Mu):=(EQ x0l x0i x1).seg ρ μ
def rl (x4 x5:Int)(μ:Mu):St:= .ret (mS [(4,LV.int .u8 x4),(5,LV.int .i64 x5)] []) μ
theorem N2 (x0l x0i x1 μ):(EQ x0l x0i x1).sK ρ μ=
 opt (bB E.P 9 (a8 μ x0l x0i) 0) fun v8=>
 opt (aL v8) fun s9=>
 opt (bn s9 x1) fun y10=>
 some (rl (y10.toNat:Int) (IntKind.wrap .i64 (x1+(1:Int))) μ):=by kernel_rfl
theorem Dw (x4 x5 μ):kB ρ 168 GE [] (rl x4 x5 μ)=
 some (.ret (LV.ltup [LV.int .u8 x4,LV.int .i64 x5]) μ):=by kernel_rfl
theorem Ud (al ai b μ):aC E ρ 168 [LV.cv (CV.ref al ai 0),LV.int .i64 b] μ=
 callK (ρ.call 190 [LV.cv (CV.ref al ai 0), LV.int .i64 b] μ) (fun v1 μ2 =>
 opt (aF .i64 v1) fun n5=>
 opt (bB E.P 9 (a8 μ2 al ai) 0) fun v6=>
 opt (aL v6) fun s7=>
 cond (decide ((List.length s7 : Int) ≤ n5)) (
 some (.ret (LV.ltup [LV.int .u8 (0:Int),LV.int .i64 n5]) μ2)) (
 opt (Jw ρ al ai n5 μ2) (kB ρ 168 GE []))) pP:=by kernel_rfl
def Fs (x0l x0i:Nat)(x1:Int)(x2f:FuncId)(x8:List CV):SegD:=⟨uD,[],cA 169 [1,1,0,0],mS [(0,LV.cv (CV.ref x0l x0i 0)),(1,LV.int .i64 x1),(2,LV.cv (CV.clo x2f [])),(8,LV.osl x8)] []⟩
def AG (x0l x0i:Nat)(x1:Int)(x2f:FuncId)(x8:List CV)(μ:Mu):=(Fs x0l x0i x1 x2f x8).loop ρ μ
def nD (x6:List UInt8)(x7:Int)(μ:Mu):St:= .ret (mS [(6,LV.str x6),(7,LV.int .i64 x7)] []) μ
def ER (x0l x0i:Nat)(x2f:FuncId)(x8:List CV)(x9 x10:Int):SegD:=⟨uD,[(0,0),(1,0),(2,0),(8,1)],cA 169 [1,1,0,0,0,1,1],mS [(0,LV.cv (CV.ref x0l x0i 0)),(2,LV.cv (CV.clo x2f [])),(8,LV.osl x8),(9,LV.int .u8 x9),(10,LV.int .i64 x10)] []⟩
def Jx (x0l x0i:Nat)(x2f:FuncId)(x8:List CV)(x9 x10:Int)(μ:Mu):=(ER x0l x0i x2f x8 x9 x10).seg ρ μ
def rm (x0l x0i:Nat)(x1:Int)(x2f:FuncId)(x8:List CV)(μ:Mu):St:= .norm (mS [(0,LV.cv (CV.ref x0l x0i 0)),(1,LV.int .i64 x1),(2,LV.cv (CV.clo x2f [])),(8,LV.osl x8)] []) μ
def yL (pv:CV)(μ:Mu):St:= .panic pv (mS [] []) μ
theorem N3 (x0l x0i x2f x8 x9 x10 μ):(ER x0l x0i x2f x8 x9 x10).sK ρ μ=
 aB (fL 1 x8 [CV.int .u8 x9]) (
 some (rm x0l x0i x10 x2f (x8++[CV.int .u8 x9]) μ)):=by kernel_rfl
theorem Dx (x0l x0i x1 x2f x8 μ):kR ρ uD [.block 1] [] (cA 169 [1,1,0,0]) (rm x0l x0i x1 x2f x8 μ)=
 AG ρ x0l x0i x1 x2f x8 μ:=by kernel_rfl
theorem BR (x0l x0i x1 x2f x8 μ):(Fs x0l x0i x1 x2f x8).rK ρ μ=
 callK (ρ.call 168 [LV.cv (CV.ref x0l x0i 0), LV.int .i64 x1] μ) (fun v1 μ2 =>
 opt (aS v1) fun xs5=>
 opt (aA xs5) fun q6=>
 opt (aF .u8 q6.1) fun n7=>
 opt (aA q6.2) fun q8=>
 opt (aF .i64 q8.1) fun n9=>
 opt (aO q8.2) fun u10=>
 cond (decide (n7 = (0 : Int))) (
 opt (bk x8) fun s11=>
 some (nD s11 x1 μ2)) (
 callK (ρ.call x2f [LV.int .u8 n7] μ2) (fun v12 μ13 =>
 opt (aM v12) fun b16=>
 cond (!b16) (
 opt (bk x8) fun s17=>
 some (nD s17 x1 μ13)) (
 opt (Jx ρ x0l x0i x2f x8 n7 n9 μ13) (kR ρ uD [.block 1] [] (cA 169 [1,1,0,0])))) (pX yL))) (pX yL):=by kernel_rfl
theorem DX (x6 x7 μ):kB ρ 169 uD [.block 0] (nD x6 x7 μ)=
 some (.ret (LV.ltup [LV.str x6,LV.int .i64 x7]) μ):=by kernel_rfl
theorem Ue (al ai b cf μ):aC E ρ 169 [LV.cv (CV.ref al ai 0),LV.int .i64 b,LV.cv (CV.clo cf [])] μ=
 opt (AG ρ al ai b cf [] μ) (kB ρ 169 uD [.block 0]):=by kernel_rfl
theorem Uf (a μ):aC E ρ 170 [LV.int .i64 a] μ=
 some (.panic (CV.iface 162 (CV.agg [CV.int .i64 a])) μ):=by kernel_rfl
def ES (x0l x0i:Nat)(x1:Int)(x6 x7:List UInt8)(x8:Bool)(o0_0 o0_1:Int)(o0_2:List UInt8):SegD:=⟨cX,[(4,0),(5,0)],cA 171 [1,1,1,1],mS [(0,LV.cv (CV.ref x0l x0i 0)),(1,LV.int .i64 x1),(4,LV.loc 0 0),(6,LV.str x6),(7,LV.str x7),(8,LV.bool x8)] [Ob.cells [LV.int .i64 o0_0,LV.int .i64 o0_1,LV.str o0_2]]⟩
def oy (x0l x0i:Nat)(x1:Int)(x6 x7:List UInt8)(x8:Bool)(o0_0 o0_1:Int)(o0_2:List UInt8)(μ:Mu):=(ES x0l x0i x1 x6 x7 x8 o0_0 o0_1 o0_2).seg ρ μ
def jp (x5 o0_0 o0_1:Int)(o0_2:List UInt8)(μ:Mu):St:= .ret (mS [(4,LV.loc 0 0),(5,LV.int .i64 x5)] [Ob.cells [LV.int .i64 o0_0,LV.int .i64 o0_1,LV.str o0_2]]) μ
def gU (pv:CV)(μ:Mu):St:= .panic pv (mS [] []) μ
def Bd (x1:Int)(x6 x7:List UInt8)(x14:Int)(x15:List UInt8)(x16:Int)(x17:Bool)(o0_0 o0_1:Int)(o0_2:List UInt8):SegD:=⟨cX,[(4,0),(5,0)],cA 171 [1,1,1,1,1,1],mS [(1,LV.int .i64 x1),(4,LV.loc 0 0),(6,LV.str x6),(7,LV.str x7),(14,LV.int .u8 x14),(15,LV.str x15),(16,LV.int .i64 x16),(17,LV.bool x17)] [Ob.cells [LV.int .i64 o0_0,LV.int .i64 o0_1,LV.str o0_2]]⟩
def xP (x1:Int)(x6 x7:List UInt8)(x14:Int)(x15:List UInt8)(x16:Int)(x17:Bool)(o0_0 o0_1:Int)(o0_2:List UInt8)(μ:Mu):=(Bd x1 x6 x7 x14 x15 x16 x17 o0_0 o0_1 o0_2).seg ρ μ
def Be (x1:Int)(x6 x7:List UInt8)(x14:Int)(x15:List UInt8)(x17:Bool)(o0_0 o0_1:Int)(o0_2:List UInt8):SegD:=⟨cX,[(4,0),(5,0)],cA 171 [1,1,1,1,1,1,1],mS [(1,LV.int .i64 x1),(4,LV.loc 0 0),(6,LV.str x6),(7,LV.str x7),(14,LV.int .u8 x14),(15,LV.str x15),(17,LV.bool x17)] [Ob.cells [LV.int .i64 o0_0,LV.int .i64 o0_1,LV.str o0_2]]⟩
def xQ (x1:Int)(x6 x7:List UInt8)(x14:Int)(x15:List UInt8)(x17:Bool)(o0_0 o0_1:Int)(o0_2:List UInt8)(μ:Mu):=(Be x1 x6 x7 x14 x15 x17 o0_0 o0_1 o0_2).seg ρ μ
def Bf (x1:Int)(x6 x7:List UInt8)(x14:Int)(x15:List UInt8)(x17:Bool)(o0_0 o0_1:Int)(o0_2:List UInt8):SegD:=⟨cX,[(4,0),(5,0)],cA 171 [1,1,1,1,1,1,1,1],mS [(1,LV.int .i64 x1),(4,LV.loc 0 0),(6,LV.str x6),(7,LV.str x7),(14,LV.int .u8 x14),(15,LV.str x15),(17,LV.bool x17)] [Ob.cells [LV.int .i64 o0_0,LV.int .i64 o0_1,LV.str o0_2]]⟩
def ox (x1:Int)(x6 x7:List UInt8)(x14:Int)(x15:List UInt8)(x17:Bool)(o0_0 o0_1:Int)(o0_2:List UInt8)(μ:Mu):=(Bf x1 x6 x7 x14 x15 x17 o0_0 o0_1 o0_2).seg ρ μ
def Bg (x1 x14:Int)(x17:Bool)(x18 x19:List UInt8)(o0_0 o0_1:Int)(o0_2:List UInt8):SegD:=⟨cX,[(4,0),(5,0)],cA 171 [1,1,1,1,1,1,1,1,1,1,1],mS [(1,LV.int .i64 x1),(4,LV.loc 0 0),(14,LV.int .u8 x14),(17,LV.bool x17),(18,LV.str x18),(19,LV.str x19)] [Ob.cells [LV.int .i64 o0_0,LV.int .i64 o0_1,LV.str o0_2]]⟩
def xR (x1 x14:Int)(x17:Bool)(x18 x19:List UInt8)(o0_0 o0_1:Int)(o0_2:List UInt8)(μ:Mu):=(Bg x1 x14 x17 x18 x19 o0_0 o0_1 o0_2).seg ρ μ
def ma (x5 o0_0 o0_1:Int)(o0_2:List UInt8)(μ:Mu):St:= .ret (mS [(4,LV.loc 0 0),(5,LV.int .i64 x5)] [Ob.cells [LV.int .i64 o0_0,LV.int .i64 o0_1,LV.str o0_2]]) μ
def Bh (x1:Int)(x18 x19:List UInt8)(o0_0 o0_1:Int)(o0_2:List UInt8):SegD:=⟨cX,[(4,0),(5,0)],cA 171 [1,1,1,1,1,1,1,1,1,1,1,1],mS [(1,LV.int .i64 x1),(4,LV.loc 0 0),(18,LV.str x18),(19,LV.str x19)] [Ob.cells [LV.int .i64 o0_0,LV.int .i64 o0_1,LV.str o0_2]]⟩
def xS (x1:Int)(x18 x19:List UInt8)(o0_0 o0_1:Int)(o0_2:List UInt8)(μ:Mu):=(Bh x1 x18 x19 o0_0 o0_1 o0_2).seg ρ μ
def mb (x5 o0_0 o0_1:Int)(o0_2:List UInt8)(μ:Mu):St:= .ret (mS [(4,LV.loc 0 0),(5,LV.int .i64 x5)] [Ob.cells [LV.int .i64 o0_0,LV.int .i64 o0_1,LV.str o0_2]]) μ
def pA (x5 o0_0 o0_1:Int)(o0_2:List UInt8)(μ:Mu):St:= .ret (mS [(4,LV.loc 0 0),(5,LV.int .i64 x5)] [Ob.cells [LV.int .i64 o0_0,LV.int .i64 o0_1,LV.str o0_2]]) μ
def l9 (pv:CV)(μ:Mu):St:= .panic pv (mS [] []) μ
def pz (x5 o0_0 o0_1:Int)(o0_2:List UInt8)(μ:Mu):St:= .ret (mS [(4,LV.loc 0 0),(5,LV.int .i64 x5)] [Ob.cells [LV.int .i64 o0_0,LV.int .i64 o0_1,LV.str o0_2]]) μ
def iu (pv:CV)(μ:Mu):St:= .panic pv (mS [] []) μ
def l3 (x5 o0_0 o0_1:Int)(o0_2:List UInt8)(μ:Mu):St:= .ret (mS [(4,LV.loc 0 0),(5,LV.int .i64 x5)] [Ob.cells [LV.int .i64 o0_0,LV.int .i64 o0_1,LV.str o0_2]]) μ
def l5 (pv:CV)(μ:Mu):St:= .panic pv (mS [] []) μ
theorem L4 (x1 x18 x19 o0_0 o0_1 o0_2 μ):(Bh x1 x18 x19 o0_0 o0_1 o0_2).sK ρ μ=
 cond (!decide (x19 = ([48] : List UInt8))) (
 aB (bd (List.length ([69] : List UInt8) + List.length x19)) (
 aB (bd (List.length x18 + List.length (([69] : List UInt8) ++ x19))) (
 some (mb x1 (1:Int) (1:Int) (x18++(([69]:List UInt8)++x19)) μ)))) (
 some (mb x1 (1:Int) (1:Int) x18 μ)):=by kernel_rfl
theorem B3 (x5 o0_0 o0_1 o0_2 μ):kS ρ cX [] [(4,0),(5,0)] (mb x5 o0_0 o0_1 o0_2 μ)=
 some (ma x5 o0_0 o0_1 o0_2 μ):=by kernel_rfl
theorem L3 (x1 x14 x17 x18 x19 o0_0 o0_1 o0_2 μ):(Bg x1 x14 x17 x18 x19 o0_0 o0_1 o0_2).sK ρ μ=
 cond (decide (x14 = (68 : Int))) (
 cond (x17) (
 aB (bd (List.length x18 + List.length ([68] : List UInt8))) (
 aB (bd (List.length (x18 ++ ([68] : List UInt8)) + List.length x19)) (
 some (ma x1 (1:Int) (2:Int) ((x18++([68]:List UInt8))++x19) μ)))) (
 opt (xS ρ x1 x18 x19 o0_0 o0_1 o0_2 μ) (kS ρ cX [] [(4,0),(5,0)]))) (
 opt (xS ρ x1 x18 x19 o0_0 o0_1 o0_2 μ) (kS ρ cX [] [(4,0),(5,0)])):=by kernel_rfl
theorem sy (x5 o0_0 o0_1 o0_2 μ):kS ρ cX [] [(4,0),(5,0)] (ma x5 o0_0 o0_1 o0_2 μ)=
 some (pA x5 o0_0 o0_1 o0_2 μ):=by kernel_rfl
theorem L1 (x1 x6 x7 x14 x15 x17 o0_0 o0_1 o0_2 μ):(Bf x1 x6 x7 x14 x15 x17 o0_0 o0_1 o0_2).sK ρ μ=
 callK (ρ.call 65 [LV.str x6, LV.bool true] μ) (fun v75 μ76 =>
 opt (aL v75) fun s79=>
 aB (bd (List.length s79 + List.length ([46] : List UInt8))) (
 callK (ρ.call 65 [LV.str x7, LV.bool false] μ76) (fun v80 μ81 =>
 opt (aL v80) fun s84=>
 aB (bd (List.length (s79 ++ ([46] : List UInt8)) + List.length s84)) (
 cond (x17) (
 callK (ρ.call 45 [LV.str x15] μ81) (fun v85 μ86 =>
 opt (aS v85) fun xs89=>
 opt (aA xs89) fun q90=>
 opt (aF .i64 q90.1) fun n91=>
 opt (aA q90.2) fun q92=>
 opt (dm q92.1) fun c93=>
 opt (aO q92.2) fun u94=>
 callK (ρ.call 66 [LV.int .i64 n91] μ86) (fun v95 μ96 =>
 opt (aL v95) fun s99=>
 opt (xR ρ x1 x14 x17 ((s79++([46]:List UInt8))++s84) s99 o0_0 o0_1 o0_2 μ96) (kS ρ cX [] [(4,0),(5,0)])) (pX l9)) (pX l9)) (
 opt (xR ρ x1 x14 x17 ((s79++([46]:List UInt8))++s84) ([48]:List UInt8) o0_0 o0_1 o0_2 μ81) (kS ρ cX [] [(4,0),(5,0)])))) (pX l9))) (pX l9):=by kernel_rfl
theorem B2 (x5 o0_0 o0_1 o0_2 μ):kS ρ cX [] [(4,0),(5,0)] (pA x5 o0_0 o0_1 o0_2 μ)=
 some (pz x5 o0_0 o0_1 o0_2 μ):=by kernel_rfl
theorem L0 (x1 x6 x7 x14 x15 x17 o0_0 o0_1 o0_2 μ):(Be x1 x6 x7 x14 x15 x17 o0_0 o0_1 o0_2).sK ρ μ=
 callK (ρ.call 193 [LV.str x6, LV.str x7] μ) (fun v64 μ65 =>
 opt (aF .i64 v64) fun n68=>
 cond (decide ((30 : Int) < n68)) (
 callK (ρ.call 170 [LV.int .i64 (7 : Int)] μ65) (fun v69 μ70 =>
 opt (aS v69) fun xs73=>
 opt (aO xs73) fun u74=>
 opt (ox ρ x1 x6 x7 x14 x15 x17 o0_0 o0_1 o0_2 μ70) (kS ρ cX [] [(4,0),(5,0)])) (pX iu)) (
 callK (ρ.call 194 [LV.str x15, LV.str ([45] : List UInt8)] μ65) (fun v105 μ106 =>
 opt (aL v105) fun s109=>
 cond (decide ((3 : Int) < (List.length s109 : Int))) (
 cond (x17) (
 callK (ρ.call 170 [LV.int .i64 (7 : Int)] μ106) (fun v110 μ111 =>
 opt (aS v110) fun xs114=>
 opt (aO xs114) fun u115=>
 opt (ox ρ x1 x6 x7 x14 x15 x17 o0_0 o0_1 o0_2 μ111) (kS ρ cX [] [(4,0),(5,0)])) (pX iu)) (
 opt (ox ρ x1 x6 x7 x14 x15 x17 o0_0 o0_1 o0_2 μ106) (kS ρ cX [] [(4,0),(5,0)]))) (
 opt (ox ρ x1 x6 x7 x14 x15 x17 o0_0 o0_1 o0_2 μ106) (kS ρ cX [] [(4,0),(5,0)]))) (pX iu))) (pX iu):=by kernel_rfl
theorem sw (x5 o0_0 o0_1 o0_2 μ):kS ρ cX [] [(4,0),(5,0)] (pz x5 o0_0 o0_1 o0_2 μ)=
 some (l3 x5 o0_0 o0_1 o0_2 μ):=by kernel_rfl
theorem sx (pv μ):kS ρ cX [] [(4,0),(5,0)] (iu pv μ)=
 some (l5 pv μ):=by kernel_rfl
theorem LZ (x1 x6 x7 x14 x15 x16 x17 o0_0 o0_1 o0_2 μ):(Bd x1 x6 x7 x14 x15 x16 x17 o0_0 o0_1 o0_2).sK ρ μ=
 cond (x17) (
 opt (xQ ρ x16 x6 x7 x14 x15 x17 o0_0 o0_1 o0_2 μ) (kS ρ cX [] [(4,0),(5,0)])) (
 opt (xQ ρ x1 x6 x7 x14 x15 x17 o0_0 o0_1 o0_2 μ) (kS ρ cX [] [(4,0),(5,0)])):=by kernel_rfl
theorem B0 (x5 o0_0 o0_1 o0_2 μ):kS ρ cX [] [(4,0),(5,0)] (l3 x5 o0_0 o0_1 o0_2 μ)=
 some (jp x5 o0_0 o0_1 o0_2 μ):=by kernel_rfl
theorem B1 (pv μ):kS ρ cX [] [(4,0),(5,0)] (l5 pv μ)=
 some (gU pv μ):=by kernel_rfl
theorem N4 (x0l x0i x1 x6 x7 x8 o0_0 o0_1 o0_2 μ):(ES x0l x0i x1 x6 x7 x8 o0_0 o0_1 o0_2).sK ρ μ=
 callK (ρ.call 191 [LV.cv (CV.ref x0l x0i 0), LV.int .i64 x1] μ) (fun v43 μ44 =>
 opt (aS v43) fun xs47=>
 opt (aA xs47) fun q48=>
 opt (aF .u8 q48.1) fun n49=>
 opt (aA q48.2) fun q50=>
 opt (aL q50.1) fun s51=>
 opt (aA q50.2) fun q52=>
 opt (aF .i64 q52.1) fun n53=>
 opt (aA q52.2) fun q54=>
 opt (aM q54.1) fun b55=>
 opt (aO q54.2) fun u56=>
 cond (!x8) (
 cond (!b55) (
 callK (ρ.call 192 [LV.str x6] μ44) (fun v57 μ58 =>
 cT v57 fun n61 n62 s63=>
 some (jp x1 n61 n62 s63 μ58)) (pX gU)) (
 opt (xP ρ x1 x6 x7 n49 s51 n53 b55 o0_0 o0_1 o0_2 μ44) (kS ρ cX [] [(4,0),(5,0)]))) (
 opt (xP ρ x1 x6 x7 n49 s51 n53 b55 o0_0 o0_1 o0_2 μ44) (kS ρ cX [] [(4,0),(5,0)]))) (pX gU):=by kernel_rfl
theorem Dy (x5 o0_0 o0_1 o0_2 μ):kB ρ 171 cX [] (jp x5 o0_0 o0_1 o0_2 μ)=
 some (.ret (LV.ltup [LV.cv (CV.agg [CV.int .i64 o0_0,CV.int .i64 o0_1,CV.str o0_2]),LV.int .i64 x5]) μ):=by kernel_rfl
theorem Dz (pv μ):kB ρ 171 cX [] (gU pv μ)=
 aB (below (List.length μ) pv) (some (.panic pv μ)):=by kernel_rfl
theorem Ug (al ai b μ):aC E ρ 171 [LV.cv (CV.ref al ai 0),LV.int .i64 b] μ=
 callK (ρ.call 169 [LV.cv (CV.ref al ai 0), LV.int .i64 b, LV.cv (CV.clo 132 [])] μ) (fun v1 μ2 =>
 opt (aS v1) fun xs5=>
 opt (aA xs5) fun q6=>
 opt (aL q6.1) fun s7=>
 opt (aA q6.2) fun q8=>
 opt (aF .i64 q8.1) fun n9=>
 opt (aO q8.2) fun u10=>
 callK (ρ.call 168 [LV.cv (CV.ref al ai 0), LV.int .i64 n9] μ2) (fun v11 μ12 =>
 opt (aS v11) fun xs15=>
 opt (aA xs15) fun q16=>
 opt (aF .u8 q16.1) fun n17=>
 opt (aA q16.2) fun q18=>
 opt (aF .i64 q18.1) fun n19=>
 opt (aO q18.2) fun u20=>
 cond (decide (n17 = (46 : Int))) (
 callK (ρ.call 172 [LV.cv (CV.ref al ai 0), LV.int .i64 n9] μ12) (fun v21 μ22 =>
 opt (aS v21) fun xs25=>
 opt (aA xs25) fun q26=>
 opt (aL q26.1) fun s27=>
 opt (aA q26.2) fun q28=>
 opt (aF .i64 q28.1) fun n29=>
 opt (aA q28.2) fun q30=>
 opt (aM q30.1) fun b31=>
 opt (aO q30.2) fun u32=>
 cond (!b31) (
 callK (ρ.call 169 [LV.cv (CV.ref al ai 0), LV.int .i64 n19, LV.cv (CV.clo 132 [])] μ22) (fun v33 μ34 =>
 opt (aS v33) fun xs37=>
 opt (aA xs37) fun q38=>
 opt (aL q38.1) fun s39=>
 opt (aA q38.2) fun q40=>
 opt (aF .i64 q40.1) fun n41=>
 opt (aO q40.2) fun u42=>
 opt (oy ρ al ai n41 s7 s39 true (0:Int) (0:Int) ([]:List UInt8) μ34) (kB ρ 171 cX [])) pP) (
 cond (decide (s7 = ([] : List UInt8))) (
 callK (ρ.call 169 [LV.cv (CV.ref al ai 0), LV.int .i64 n19, LV.cv (CV.clo 132 [])] μ22) (fun v124 μ125 =>
 opt (aS v124) fun xs128=>
 opt (aA xs128) fun q129=>
 opt (aL q129.1) fun s130=>
 opt (aA q129.2) fun q131=>
 opt (aF .i64 q131.1) fun n132=>
 opt (aO q131.2) fun u133=>
 opt (oy ρ al ai n132 s7 s130 true (0:Int) (0:Int) ([]:List UInt8) μ125) (kB ρ 171 cX [])) pP) (
 opt (oy ρ al ai n9 s7 ([]:List UInt8) false (0:Int) (0:Int) ([]:List UInt8) μ22) (kB ρ 171 cX [])))) pP) (
 opt (oy ρ al ai n9 s7 ([]:List UInt8) false (0:Int) (0:Int) ([]:List UInt8) μ12) (kB ρ 171 cX []))) pP) pP:=by kernel_rfl
def ET (x0l x0i:Nat)(x8:Int):SegD:=⟨GF,[(4,0),(5,0),(6,0)],cA 172 [1,1,1],mS [(0,LV.cv (CV.ref x0l x0i 0)),(8,LV.int .i64 x8)] []⟩
def Jy (x0l x0i:Nat)(x8:Int)(μ:Mu):=(ET x0l x0i x8).seg ρ μ
def f8 (x4:List UInt8)(x5:Int)(x6:Bool)(μ:Mu):St:= .ret (mS [(4,LV.str x4),(5,LV.int .i64 x5),(6,LV.bool x6)] []) μ
def ls (pv:CV)(μ:Mu):St:= .panic pv (mS [] []) μ
theorem N5 (x0l x0i x8 μ):(ET x0l x0i x8).sK ρ μ=
 callK (ρ.call 169 [LV.cv (CV.ref x0l x0i 0), LV.int .i64 x8, LV.cv (CV.clo 90 [])] μ) (fun v11 μ12 =>
 opt (aS v11) fun xs15=>
 opt (aA xs15) fun q16=>
 opt (aL q16.1) fun s17=>
 opt (aA q16.2) fun q18=>
 opt (aF .i64 q18.1) fun n19=>
 opt (aO q18.2) fun u20=>
 callK (ρ.call 168 [LV.cv (CV.ref x0l x0i 0), LV.int .i64 n19] μ12) (fun v21 μ22 =>
 opt (aS v21) fun xs25=>
 opt (aA xs25) fun q26=>
 opt (aF .u8 q26.1) fun n27=>
 opt (aA q26.2) fun q28=>
 opt (aF .i64 q28.1) fun n29=>
 opt (aO q28.2) fun u30=>
 callK (ρ.call 91 [LV.str s17] μ22) (fun v31 μ32 =>
 opt (aL v31) fun s35=>
 aB (bd (List.length ([46] : List UInt8) + List.length s35)) (
 aB (bd (List.length (([46] : List UInt8) ++ s35) + List.length ([46] : List UInt8))) (
 callK (ρ.call 51 [] μ32) (fun v36 μ37 =>
 opt (bL v36) fun l40=>
 callK (ρ.call 50 [LV.cv (CV.sl l40), LV.str ((([46] : List UInt8) ++ s35) ++ ([46] : List UInt8))] μ37) (fun v41 μ42 =>
 opt (aM v41) fun b45=>
 cond (b45) (
 cond (decide (n27 = (46 : Int))) (
 some (f8 ((([46]:List UInt8)++s35)++([46]:List UInt8)) n29 true μ42)) (
 some (f8 ((([46]:List UInt8)++s35)++([46]:List UInt8)) n29 false μ42))) (
 cond (decide ((([46] : List UInt8) ++ s35) ++ ([46] : List UInt8) = ([46, 84, 82, 85, 69, 46] : List UInt8))) (
 cond (decide (n27 = (46 : Int))) (
 some (f8 ((([46]:List UInt8)++s35)++([46]:List UInt8)) n29 true μ42)) (
 some (f8 ((([46]:List UInt8)++s35)++([46]:List UInt8)) n29 false μ42))) (
 cond (decide (n27 = (46 : Int))) (
 some (f8 ((([46]:List UInt8)++s35)++([46]:List UInt8)) n29 (decide ((([46]:List UInt8)++s35)++([46]:List UInt8)=([46,70,65,76,83,69,46]:List UInt8))) μ42)) (
 some (f8 ((([46]:List UInt8)++s35)++([46]:List UInt8)) n29 false μ42))))) (pX ls)) (pX ls)))) (pX ls)) (pX ls)) (pX ls):=by kernel_rfl
theorem DA (x4 x5 x6 μ):kB ρ 172 GF [] (f8 x4 x5 x6 μ)=
 some (.ret (LV.ltup [LV.str x4,LV.int .i64 x5,LV.bool x6]) μ):=by kernel_rfl
theorem Uh (al ai b μ):aC E ρ 172 [LV.cv (CV.ref al ai 0),LV.int .i64 b] μ=
 callK (ρ.call 168 [LV.cv (CV.ref al ai 0), LV.int .i64 b] μ) (fun v1 μ2 =>
 opt (aS v1) fun xs5=>
 opt (aA xs5) fun q6=>
 opt (aF .u8 q6.1) fun n7=>
 opt (aA q6.2) fun q8=>
 opt (aF .i64 q8.1) fun n9=>
 opt (aO q8.2) fun u10=>
 cond (!decide (n7 = (46 : Int))) (
 some (.ret (LV.ltup [LV.str ([]:List UInt8),LV.int .i64 b,LV.bool false]) μ2)) (
 opt (Jy ρ al ai n9 μ2) (kB ρ 172 GF []))) pP:=by kernel_rfl
def Ft (x0l x0i:Nat)(x1:Int)(x6:List UInt8)(x7:Int)(x8:List UInt8)(o0_0 o0_1:Int)(o0_2:List UInt8):SegD:=⟨jM,[(0,0),(1,0),(4,0),(7,0),(8,0)],cA 173 [1,1,1,1,0,1,0,0],mS [(0,LV.cv (CV.ref x0l x0i 0)),(1,LV.int .i64 x1),(4,LV.loc 0 0),(6,LV.str x6),(7,LV.int .i64 x7),(8,LV.str x8)] [Ob.cells [LV.int .i64 o0_0,LV.int .i64 o0_1,LV.str o0_2]]⟩
def AH (x0l x0i:Nat)(x1:Int)(x6:List UInt8)(x7:Int)(x8:List UInt8)(o0_0 o0_1:Int)(o0_2:List UInt8)(μ:Mu):=(Ft x0l x0i x1 x6 x7 x8 o0_0 o0_1 o0_2).loop ρ μ
def EU (x0l x0i:Nat)(x1:Int)(x6:List UInt8)(x7:Int)(x8:List UInt8)(x9 o0_0 o0_1:Int)(o0_2:List UInt8):SegD:=⟨jM,[(0,0),(1,0),(4,0),(6,0),(7,0),(8,0)],cA 173 [1,1,1,1,0,1,0,0,0,0,1,1],mS [(0,LV.cv (CV.ref x0l x0i 0)),(1,LV.int .i64 x1),(4,LV.loc 0 0),(6,LV.str x6),(7,LV.int .i64 x7),(8,LV.str x8),(9,LV.int .i64 x9)] [Ob.cells [LV.int .i64 o0_0,LV.int .i64 o0_1,LV.str o0_2]]⟩
def Aw (x0l x0i:Nat)(x1:Int)(x6:List UInt8)(x7:Int)(x8:List UInt8)(x9 o0_0 o0_1:Int)(o0_2:List UInt8)(μ:Mu):=(EU x0l x0i x1 x6 x7 x8 x9 o0_0 o0_1 o0_2).seg ρ μ
def nx (x0l x0i:Nat)(x1:Int)(x6:List UInt8)(x7:Int)(x8:List UInt8)(o0_0 o0_1:Int)(o0_2:List UInt8)(μ:Mu):St:= .exit 0 (mS [(0,LV.cv (CV.ref x0l x0i 0)),(1,LV.int .i64 x1),(4,LV.loc 0 0),(6,LV.str x6),(7,LV.int .i64 x7),(8,LV.str x8)] [Ob.cells [LV.int .i64 o0_0,LV.int .i64 o0_1,LV.str o0_2]]) μ
def rn (x0l x0i:Nat)(x1:Int)(x6:List UInt8)(x7:Int)(x8:List UInt8)(o0_0 o0_1:Int)(o0_2:List UInt8)(μ:Mu):St:= .norm (mS [(0,LV.cv (CV.ref x0l x0i 0)),(1,LV.int .i64 x1),(4,LV.loc 0 0),(6,LV.str x6),(7,LV.int .i64 x7),(8,LV.str x8)] [Ob.cells [LV.int .i64 o0_0,LV.int .i64 o0_1,LV.str o0_2]]) μ
def JT (pv:CV)(μ:Mu):St:= .panic pv (mS [] []) μ
def rH (x0l x0i:Nat)(x1 x7:Int)(x8:List UInt8)(o0_0 o0_1:Int)(o0_2:List UInt8)(μ:Mu):St:= .exit 0 (mS [(0,LV.cv (CV.ref x0l x0i 0)),(1,LV.int .i64 x1),(4,LV.loc 0 0),(7,LV.int .i64 x7),(8,LV.str x8)] [Ob.cells [LV.int .i64 o0_0,LV.int .i64 o0_1,LV.str o0_2]]) μ
def nE (pv:CV)(μ:Mu):St:= .panic pv (mS [] []) μ
def Bi (x0l x0i:Nat)(x1 x7:Int)(x8:List UInt8)(o0_0 o0_1:Int)(o0_2:List UInt8):SegD:=⟨jM,[(4,0),(5,0)],cA 173 [1,1,1,1,1,1],mS [(0,LV.cv (CV.ref x0l x0i 0)),(1,LV.int .i64 x1),(4,LV.loc 0 0),(7,LV.int .i64 x7),(8,LV.str x8)] [Ob.cells [LV.int .i64 o0_0,LV.int .i64 o0_1,LV.str o0_2]]⟩
def xT (x0l x0i:Nat)(x1 x7:Int)(x8:List UInt8)(o0_0 o0_1:Int)(o0_2:List UInt8)(μ:Mu):=(Bi x0l x0i x1 x7 x8 o0_0 o0_1 o0_2).seg ρ μ
def pB (x5 o0_0 o0_1:Int)(o0_2:List UInt8)(μ:Mu):St:= .ret (mS [(4,LV.loc 0 0),(5,LV.int .i64 x5)] [Ob.cells [LV.int .i64 o0_0,LV.int .i64 o0_1,LV.str o0_2]]) μ
def wq (pv:CV)(μ:Mu):St:= .panic pv (mS [] []) μ
theorem N6 (x0l x0i x1 x6 x7 x8 x9 o0_0 o0_1 o0_2 μ):(EU x0l x0i x1 x6 x7 x8 x9 o0_0 o0_1 o0_2).sK ρ μ=
 opt (bB E.P 9 (a8 μ x0l x0i) 0) fun v18=>
 opt (aL v18) fun s19=>
 opt (dk s19 x1 (IntKind.wrap .i64 (x1+x9))) fun s20=>
 aB (bd (List.length x8 + List.length s20)) (
 opt (bB E.P 9 (a8 μ x0l x0i) 0) fun v21=>
 opt (aL v21) fun s22=>
 opt (dk s22 (IntKind.wrap .i64 (x1+IntKind.wrap .i64 (x9+(1:Int)))) (List.length s22:Int)) fun s23=>
 callK (ρ.call 195 [LV.str s23, LV.str x6] μ) (fun v24 μ25 =>
 opt (aM v24) fun b28=>
 cond (!b28) (
 some (nx x0l x0i (IntKind.wrap .i64 (x1+IntKind.wrap .i64 (x9+(1:Int)))) x6 x7 (x8++s20) o0_0 o0_1 o0_2 μ25)) (
 aB (bd (List.length (x8 ++ s20) + List.length x6)) (
 some (rn x0l x0i (IntKind.wrap .i64 (x1+IntKind.wrap .i64 (x9+(1:Int)))) x6 x7 ((x8++s20)++x6) o0_0 o0_1 o0_2 μ25)))) (pX JT)):=by kernel_rfl
theorem uc (x0l x0i x1 x6 x7 x8 o0_0 o0_1 o0_2 μ):kR ρ jM [.block 1,.seq (cA 173 [1,1,1,1,0,1,0,0,1])] [(0,0),(1,0),(4,0),(7,0),(8,0)] (cA 173 [1,1,1,1,0,1,0,0]) (nx x0l x0i x1 x6 x7 x8 o0_0 o0_1 o0_2 μ)=
 some (rH x0l x0i x1 x7 x8 o0_0 o0_1 o0_2 μ):=by kernel_rfl
theorem DB (x0l x0i x1 x6 x7 x8 o0_0 o0_1 o0_2 μ):kR ρ jM [.block 1,.seq (cA 173 [1,1,1,1,0,1,0,0,1])] [(0,0),(1,0),(4,0),(7,0),(8,0)] (cA 173 [1,1,1,1,0,1,0,0]) (rn x0l x0i x1 x6 x7 x8 o0_0 o0_1 o0_2 μ)=
 AH ρ x0l x0i (IntKind.wrap .i64 (x1+(1:Int))) x6 x7 x8 o0_0 o0_1 o0_2 μ:=by kernel_rfl
theorem BS (x0l x0i x1 x6 x7 x8 o0_0 o0_1 o0_2 μ):(Ft x0l x0i x1 x6 x7 x8 o0_0 o0_1 o0_2).rK ρ μ=
 opt (bB E.P 9 (a8 μ x0l x0i) 0) fun v4=>
 opt (aL v4) fun s5=>
 opt (dk s5 x1 (List.length s5:Int)) fun s6=>
 callK (ρ.call 145 [LV.str s6, LV.str x6] μ) (fun v7 μ8 =>
 opt (aF .i64 v7) fun n11=>
 cond (decide (n11 < (0 : Int))) (
 callK (ρ.call 170 [LV.int .i64 (7 : Int)] μ8) (fun v12 μ13 =>
 opt (aS v12) fun xs16=>
 opt (aO xs16) fun u17=>
 opt (Aw ρ x0l x0i x1 x6 x7 x8 n11 o0_0 o0_1 o0_2 μ13) (kR ρ jM [.block 1,.seq (cA 173 [1,1,1,1,0,1,0,0,1])] [(0,0),(1,0),(4,0),(7,0),(8,0)] (cA 173 [1,1,1,1,0,1,0,0]))) (pX nE)) (
 opt (Aw ρ x0l x0i x1 x6 x7 x8 n11 o0_0 o0_1 o0_2 μ8) (kR ρ jM [.block 1,.seq (cA 173 [1,1,1,1,0,1,0,0,1])] [(0,0),(1,0),(4,0),(7,0),(8,0)] (cA 173 [1,1,1,1,0,1,0,0])))) (pX nE):=by kernel_rfl
theorem L5 (x0l x0i x1 x7 x8 o0_0 o0_1 o0_2 μ):(Bi x0l x0i x1 x7 x8 o0_0 o0_1 o0_2).sK ρ μ=
 callK (ρ.call 189 [LV.cv (CV.ref x0l x0i 0), LV.int .i64 x7, LV.int .i64 x1] μ) (fun v37 μ38 =>
 opt (aS v37) fun xs41=>
 opt (aO xs41) fun u42=>
 callK (ρ.call 86 [LV.str x8] μ38) (fun v43 μ44 =>
 cT v43 fun n47 n48 s49=>
 some (pB x1 n47 n48 s49 μ44)) (pX wq)) (pX wq):=by kernel_rfl
theorem B4 (x5 o0_0 o0_1 o0_2 μ):kB ρ 173 jM [] (pB x5 o0_0 o0_1 o0_2 μ)=
 some (.ret (LV.ltup [LV.cv (CV.agg [CV.int .i64 o0_0,CV.int .i64 o0_1,CV.str o0_2]),LV.int .i64 x5]) μ):=by kernel_rfl
theorem DY (x0l x0i x1 x7 x8 o0_0 o0_1 o0_2 μ):kB ρ 173 jM [.block 0,.seq (cA 173 [1,1,1,1,1])] (rH x0l x0i x1 x7 x8 o0_0 o0_1 o0_2 μ)=
 cond (decide ((60 : Int) < (List.length x8 : Int))) (
 callK (ρ.call 170 [LV.int .i64 (8 : Int)] μ) (fun v31 μ32 =>
 opt (aS v31) fun xs35=>
 opt (aO xs35) fun u36=>
 opt (xT ρ x0l x0i x1 x7 x8 o0_0 o0_1 o0_2 μ32) (kB ρ 173 jM [])) pP) (
 opt (xT ρ x0l x0i x1 x7 x8 o0_0 o0_1 o0_2 μ) (kB ρ 173 jM [])):=by kernel_rfl
theorem DZ (pv μ):kB ρ 173 jM [.block 0,.seq (cA 173 [1,1,1,1,1])] (nE pv μ)=
 aB (below (List.length μ) pv) (some (.panic pv μ)):=by kernel_rfl
theorem Ui (al ai b μ):aC E ρ 173 [LV.cv (CV.ref al ai 0),LV.int .i64 b] μ=
 opt (bB E.P 9 (a8 μ al ai) 0) fun v1=>
 opt (aL v1) fun s2=>
 opt (dk s2 b (IntKind.wrap .i64 (b+(1:Int)))) fun s3=>
 opt (AH ρ al ai (IntKind.wrap .i64 (b+(1:Int))) s3 b ([]:List UInt8) (0:Int) (0:Int) ([]:List UInt8) μ) (kB ρ 173 jM [.block 0,.seq (cA 173 [1,1,1,1,1])]):=by kernel_rfl
def EV (x6 x7 x8 x9:Int)(x10:List UInt8)(o0_0 o0_1:Int)(o0_2:List UInt8):SegD:=⟨iP,[(4,0),(5,0)],cA 174 [1,1,1,1,1],mS [(4,LV.loc 0 0),(6,LV.int .u8 x6),(7,LV.int .i64 x7),(8,LV.int .u8 x8),(9,LV.int .i64 x9),(10,LV.str x10)] [Ob.cells [LV.int .i64 o0_0,LV.int .i64 o0_1,LV.str o0_2]]⟩
def Jz (x6 x7 x8 x9:Int)(x10:List UInt8)(o0_0 o0_1:Int)(o0_2:List UInt8)(μ:Mu):=(EV x6 x7 x8 x9 x10 o0_0 o0_1 o0_2).seg ρ μ
def jq (x5 o0_0 o0_1:Int)(o0_2:List UInt8)(μ:Mu):St:= .ret (mS [(4,LV.loc 0 0),(5,LV.int .i64 x5)] [Ob.cells [LV.int .i64 o0_0,LV.int .i64 o0_1,LV.str o0_2]]) μ
def EW (x6 x7 o0_0 o0_1:Int)(o0_2:List UInt8):SegD:=⟨iP,[(4,0),(5,0)],cA 174 [1,1,1,1,1,1],mS [(4,LV.loc 0 0),(6,LV.int .u8 x6),(7,LV.int .i64 x7)] [Ob.cells [LV.int .i64 o0_0,LV.int .i64 o0_1,LV.str o0_2]]⟩
def Ax (x6 x7 o0_0 o0_1:Int)(o0_2:List UInt8)(μ:Mu):=(EW x6 x7 o0_0 o0_1 o0_2).seg ρ μ
def lu (x5 o0_0 o0_1:Int)(o0_2:List UInt8)(μ:Mu):St:= .ret (mS [(4,LV.loc 0 0),(5,LV.int .i64 x5)] [Ob.cells [LV.int .i64 o0_0,LV.int .i64 o0_1,LV.str o0_2]]) μ
def Bj (x7:Int)(x13:List UInt8)(o0_0 o0_1:Int)(o0_2:List UInt8):SegD:=⟨iP,[(4,0),(5,0)],cA 174 [1,1,1,1,1,1,1,1],mS [(4,LV.loc 0 0),(7,LV.int .i64 x7),(13,LV.str x13)] [Ob.cells [LV.int .i64 o0_0,LV.int .i64 o0_1,LV.str o0_2]]⟩
def EA (x7:Int)(x13:List UInt8)(o0_0 o0_1:Int)(o0_2:List UInt8)(μ:Mu):=(Bj x7 x13 o0_0 o0_1 o0_2).seg ρ μ
def mc (x5 o0_0 o0_1:Int)(o0_2:List UInt8)(μ:Mu):St:= .ret (mS [(4,LV.loc 0 0),(5,LV.int .i64 x5)] [Ob.cells [LV.int .i64 o0_0,LV.int .i64 o0_1,LV.str o0_2]]) μ
def jQ (pv:CV)(μ:Mu):St:= .panic pv (mS [] []) μ
def lw (pv:CV)(μ:Mu):St:= .panic pv (mS [] []) μ
def gV (pv:CV)(μ:Mu):St:= .panic pv (mS [] []) μ
theorem L6 (x7 x13 o0_0 o0_1 o0_2 μ):(Bj x7 x13 o0_0 o0_1 o0_2).sK ρ μ=
 callK (ρ.call 52 [] μ) (fun v49 μ50 =>
 opt (bL v49) fun l53=>
 callK (ρ.call 50 [LV.cv (CV.sl l53), LV.str x13] μ50) (fun v54 μ55 =>
 opt (aM v54) fun b58=>
 cond (!b58) (
 callK (ρ.call 170 [LV.int .i64 (7 : Int)] μ55) (fun v59 μ60 =>
 opt (aS v59) fun xs63=>
 opt (aO xs63) fun u64=>
 some (mc x7 (2:Int) (0:Int) x13 μ60)) (pX jQ)) (
 some (mc x7 (2:Int) (0:Int) x13 μ55))) (pX jQ)) (pX jQ):=by kernel_rfl
theorem B5 (x5 o0_0 o0_1 o0_2 μ):kS ρ iP [] [(4,0),(5,0)] (mc x5 o0_0 o0_1 o0_2 μ)=
 some (lu x5 o0_0 o0_1 o0_2 μ):=by kernel_rfl
theorem B6 (pv μ):kS ρ iP [] [(4,0),(5,0)] (jQ pv μ)=
 some (lw pv μ):=by kernel_rfl
theorem N8 (x6 x7 o0_0 o0_1 o0_2 μ):(EW x6 x7 o0_0 o0_1 o0_2).sK ρ μ=
 opt (bk [CV.int .u8 x6]) fun s40=>
 callK (ρ.call 196 [] μ) (fun v41 μ42 =>
 opt (dm v41) fun c45=>
 opt (tB (LV.cv c45) {fr:=fun _=> .cv .undef,lam:=[Ob.cells [LV.int .i64 o0_0,LV.int .i64 o0_1,LV.str o0_2]],pushed:=false} μ42) fun p46=>
 aB (j2 .string p46.1) (
 optE (fU p46.1 p46.2 (Value.string ⟨⟨s40⟩⟩)) (fun c47 =>
 opt (aL (LV.cv c47)) fun s48=>
 some (lu x7 (2:Int) (0:Int) s48 μ42)) (
 opt (EA ρ x7 s40 o0_0 o0_1 o0_2 μ42) (kS ρ iP [] [(4,0),(5,0)])))) (pX lw):=by kernel_rfl
theorem DE (x5 o0_0 o0_1 o0_2 μ):kS ρ iP [] [(4,0),(5,0)] (lu x5 o0_0 o0_1 o0_2 μ)=
 some (jq x5 o0_0 o0_1 o0_2 μ):=by kernel_rfl
theorem DF (pv μ):kS ρ iP [] [(4,0),(5,0)] (lw pv μ)=
 some (gV pv μ):=by kernel_rfl
theorem N7 (x6 x7 x8 x9 x10 o0_0 o0_1 o0_2 μ):(EV x6 x7 x8 x9 x10 o0_0 o0_1 o0_2).sK ρ μ=
 cond (!decide (x8 = (0 : Int))) (
 callK (ρ.call 52 [] μ) (fun v30 μ31 =>
 opt (bL v30) fun l34=>
 callK (ρ.call 50 [LV.cv (CV.sl l34), LV.str x10] μ31) (fun v35 μ36 =>
 opt (aM v35) fun b39=>
 cond (b39) (
 some (jq x9 (2:Int) (0:Int) x10 μ36)) (
 opt (Ax ρ x6 x7 o0_0 o0_1 o0_2 μ36) (kS ρ iP [] [(4,0),(5,0)]))) (pX gV)) (pX gV)) (
 opt (Ax ρ x6 x7 o0_0 o0_1 o0_2 μ) (kS ρ iP [] [(4,0),(5,0)])):=by kernel_rfl
theorem DC (x5 o0_0 o0_1 o0_2 μ):kB ρ 174 iP [] (jq x5 o0_0 o0_1 o0_2 μ)=
 some (.ret (LV.ltup [LV.cv (CV.agg [CV.int .i64 o0_0,CV.int .i64 o0_1,CV.str o0_2]),LV.int .i64 x5]) μ):=by kernel_rfl
theorem DD (pv μ):kB ρ 174 iP [] (gV pv μ)=
 aB (below (List.length μ) pv) (some (.panic pv μ)):=by kernel_rfl
theorem Uj (al ai b μ):aC E ρ 174 [LV.cv (CV.ref al ai 0),LV.int .i64 b] μ=
 callK (ρ.call 168 [LV.cv (CV.ref al ai 0), LV.int .i64 b] μ) (fun v1 μ2 =>
 opt (aS v1) fun xs5=>
 opt (aA xs5) fun q6=>
 opt (aF .u8 q6.1) fun n7=>
 opt (aA q6.2) fun q8=>
 opt (aF .i64 q8.1) fun n9=>
 opt (aO q8.2) fun u10=>
 callK (ρ.call 168 [LV.cv (CV.ref al ai 0), LV.int .i64 n9] μ2) (fun v11 μ12 =>
 opt (aS v11) fun xs15=>
 opt (aA xs15) fun q16=>
 opt (aF .u8 q16.1) fun n17=>
 opt (aA q16.2) fun q18=>
 opt (aF .i64 q18.1) fun n19=>
 opt (aO q18.2) fun u20=>
 opt (bk [CV.int .u8 n7,CV.int .u8 n17]) fun s21=>
 callK (ρ.call 196 [] μ12) (fun v22 μ23 =>
 opt (dm v22) fun c26=>
 opt (tB (LV.cv c26) {fr:=fun _=> .cv .undef,lam:=[Ob.cells [LV.int .i64 (0:Int),LV.int .i64 (0:Int),LV.str ([]:List UInt8)]],pushed:=false} μ23) fun p27=>
 aB (j2 .string p27.1) (
 optE (fU p27.1 p27.2 (Value.string ⟨⟨s21⟩⟩)) (fun c28 =>
 opt (aL (LV.cv c28)) fun s29=>
 some (.ret (LV.ltup [LV.cv (CV.agg [CV.int .i64 (2:Int),CV.int .i64 (0:Int),CV.str s29]),LV.int .i64 n19]) μ23)) (
 opt (Jz ρ n7 n9 n17 n19 s21 (0:Int) (0:Int) ([]:List UInt8) μ23) (kB ρ 174 iP [])))) pP) pP) pP:=by kernel_rfl
def Fu (x0l x0i:Nat)(x2 x6:Int):SegD:=⟨GG,[],cA 189 [1,0,0],mS [(0,LV.cv (CV.ref x0l x0i 0)),(2,LV.int .i64 x2),(6,LV.int .i64 x6)] []⟩
def AI (x0l x0i:Nat)(x2 x6:Int)(μ:Mu):=(Fu x0l x0i x2 x6).loop ρ μ
def rI (μ:Mu):St:= .exit 0 (mS [] []) μ
theorem BT (x0l x0i x2 x6 μ):(Fu x0l x0i x2 x6).rK ρ μ=
 cond (decide (x6 < x2)) (
 opt (ie E.P 38 (a8 μ x0l x0i) 3) fun r1=>
 opt (eX r1.1) fun l2=>
 aB (fL 1 l2 [CV.int .i64 x6]) (
 aB (bN (x0l + 1) (l2 ++ [CV.int .i64 x6])) (
 opt (bI E.P 38 (a8 (bD μ x0l x0i r1.2) x0l x0i) 3 (LV.osl (l2++[CV.int .i64 x6]))) fun o3=>
 AI ρ x0l x0i x2 (IntKind.wrap .i64 (x6+(1:Int))) (bD (bD μ x0l x0i r1.2) x0l x0i o3)))) (
 some (rI μ)):=by kernel_rfl
theorem D0 (μ):kB ρ 189 GG [.block 0] (rI μ)=
 some (.ret (LV.ltup []) μ):=by kernel_rfl
theorem Uk (al ai b c μ):aC E ρ 189 [LV.cv (CV.ref al ai 0),LV.int .i64 b,LV.int .i64 c] μ=
 opt (AI ρ al ai c b μ) (kB ρ 189 GG [.block 0]):=by kernel_rfl
def Fv (x0l x0i:Nat)(x1:Int):SegD:=⟨GH,[(1,0)],cA 190 [1,0,0,0],mS [(0,LV.cv (CV.ref x0l x0i 0)),(1,LV.int .i64 x1)] []⟩
def AJ (x0l x0i:Nat)(x1:Int)(μ:Mu):=(Fv x0l x0i x1).loop ρ μ
def lC (x1:Int)(μ:Mu):St:= .exit 0 (mS [(1,LV.int .i64 x1)] []) μ
theorem BU (x0l x0i x1 μ):(Fv x0l x0i x1).rK ρ μ=
 opt (bB E.P 4 (a8 μ x0l x0i) 1) fun v1=>
 opt (aM v1) fun b2=>
 cond (b2) (
 opt (bB E.P 9 (a8 μ x0l x0i) 0) fun v3=>
 opt (aL v3) fun s4=>
 cond (decide (x1 < (List.length s4 : Int))) (
 opt (bB E.P 9 (a8 μ x0l x0i) 0) fun v5=>
 opt (aL v5) fun s6=>
 opt (bn s6 x1) fun y7=>
 cond (decide ((y7.toNat : Int) = (32 : Int))) (
 AJ ρ x0l x0i (IntKind.wrap .i64 (x1+(1:Int))) μ) (
 some (lC x1 μ))) (
 some (lC x1 μ))) (
 some (lC x1 μ)):=by kernel_rfl
theorem D1 (x1 μ):kB ρ 190 GH [.block 0,.seq (cA 190 [1,1])] (lC x1 μ)=
 some (.ret (LV.int .i64 x1) μ):=by kernel_rfl
theorem Ul (al ai b μ):aC E ρ 190 [LV.cv (CV.ref al ai 0),LV.int .i64 b] μ=
 opt (AJ ρ al ai b μ) (kB ρ 190 GH [.block 0,.seq (cA 190 [1,1])]):=by kernel_rfl
def EY (x0l x0i:Nat)(x4 x9:Int):SegD:=⟨lW,[(4,0),(5,0),(6,0),(7,0)],cA 191 [1,1,1,1],mS [(0,LV.cv (CV.ref x0l x0i 0)),(4,LV.int .u8 x4),(9,LV.int .i64 x9)] []⟩
def Ay (x0l x0i:Nat)(x4 x9:Int)(μ:Mu):=(EY x0l x0i x4 x9).seg ρ μ
def Bk (x0l x0i:Nat)(x4 x9:Int)(x10:List UInt8):SegD:=⟨lW,[(4,0),(5,0),(6,0),(7,0)],cA 191 [1,1,1,1,1,1],mS [(0,LV.cv (CV.ref x0l x0i 0)),(4,LV.int .u8 x4),(9,LV.int .i64 x9),(10,LV.str x10)] []⟩
def mB (x0l x0i:Nat)(x4 x9:Int)(x10:List UInt8)(μ:Mu):=(Bk x0l x0i x4 x9 x10).seg ρ μ
def pC (x4:Int)(x5:List UInt8)(x6:Int)(x7:Bool)(μ:Mu):St:= .ret (mS [(4,LV.int .u8 x4),(5,LV.str x5),(6,LV.int .i64 x6),(7,LV.bool x7)] []) μ
def GS (pv:CV)(μ:Mu):St:= .panic pv (mS [] []) μ
def rp (x4:Int)(x5:List UInt8)(x6:Int)(x7:Bool)(μ:Mu):St:= .ret (mS [(4,LV.int .u8 x4),(5,LV.str x5),(6,LV.int .i64 x6),(7,LV.bool x7)] []) μ
def JU (pv:CV)(μ:Mu):St:= .panic pv (mS [] []) μ
theorem L7 (x0l x0i x4 x9 x10 μ):(Bk x0l x0i x4 x9 x10).sK ρ μ=
 callK (ρ.call 169 [LV.cv (CV.ref x0l x0i 0), LV.int .i64 x9, LV.cv (CV.clo 132 [])] μ) (fun v21 μ22 =>
 opt (aS v21) fun xs25=>
 opt (aA xs25) fun q26=>
 opt (aL q26.1) fun s27=>
 opt (aA q26.2) fun q28=>
 opt (aF .i64 q28.1) fun n29=>
 opt (aO q28.2) fun u30=>
 aB (bd (List.length x10 + List.length s27)) (
 some (pC x4 (x10++s27) n29 (!decide (s27=([]:List UInt8))) μ22))) (pX GS):=by kernel_rfl
theorem nf (x4 x5 x6 x7 μ):kS ρ lW [] [(4,0),(5,0),(6,0),(7,0)] (pC x4 x5 x6 x7 μ)=
 some (rp x4 x5 x6 x7 μ):=by kernel_rfl
theorem Oa (x0l x0i x4 x9 μ):(EY x0l x0i x4 x9).sK ρ μ=
 callK (ρ.call 168 [LV.cv (CV.ref x0l x0i 0), LV.int .i64 x9] μ) (fun v11 μ12 =>
 opt (aS v11) fun xs15=>
 opt (aA xs15) fun q16=>
 opt (aF .u8 q16.1) fun n17=>
 opt (aA q16.2) fun q18=>
 opt (aF .i64 q18.1) fun n19=>
 opt (aO q18.2) fun u20=>
 cond (decide (n17 = (43 : Int))) (
 cond (decide (n17 = (45 : Int))) (
 opt (mB ρ x0l x0i x4 n19 ([45]:List UInt8) μ12) (kS ρ lW [] [(4,0),(5,0),(6,0),(7,0)])) (
 opt (mB ρ x0l x0i x4 n19 ([]:List UInt8) μ12) (kS ρ lW [] [(4,0),(5,0),(6,0),(7,0)]))) (
 cond (decide (n17 = (45 : Int))) (
 cond (decide (n17 = (45 : Int))) (
 opt (mB ρ x0l x0i x4 n19 ([45]:List UInt8) μ12) (kS ρ lW [] [(4,0),(5,0),(6,0),(7,0)])) (
 opt (mB ρ x0l x0i x4 n19 ([]:List UInt8) μ12) (kS ρ lW [] [(4,0),(5,0),(6,0),(7,0)]))) (
 opt (mB ρ x0l x0i x4 x9 ([]:List UInt8) μ12) (kS ρ lW [] [(4,0),(5,0),(6,0),(7,0)])))) (pX JU):=by kernel_rfl
theorem ud (x4 x5 x6 x7 μ):kB ρ 191 lW [] (rp x4 x5 x6 x7 μ)=
 some (.ret (LV.ltup [LV.int .u8 x4,LV.str x5,LV.int .i64 x6,LV.bool x7]) μ):=by kernel_rfl
theorem Um (al ai b μ):aC E ρ 191 [LV.cv (CV.ref al ai 0),LV.int .i64 b] μ=
 callK (ρ.call 168 [LV.cv (CV.ref al ai 0), LV.int .i64 b] μ) (fun v1 μ2 =>
 opt (aS v1) fun xs5=>
 opt (aA xs5) fun q6=>
 opt (aF .u8 q6.1) fun n7=>
 opt (aA q6.2) fun q8=>
 opt (aF .i64 q8.1) fun n9=>
 opt (aO q8.2) fun u10=>
 cond (!decide (IntKind.wrap .u8 ((BitVec.ofInt (IntKind.bits .u8) n7 &&& ~~~BitVec.ofInt (IntKind.bits .u8) (32 : Int)).toNat : Int) = (69 : Int))) (
 cond (!decide (IntKind.wrap .u8 ((BitVec.ofInt (IntKind.bits .u8) n7 &&& ~~~BitVec.ofInt (IntKind.bits .u8) (32 : Int)).toNat : Int) = (68 : Int))) (
 some (.ret (LV.ltup [LV.int .u8 (0:Int),LV.str ([]:List UInt8),LV.int .i64 b,LV.bool false]) μ2)) (
 opt (Ay ρ al ai (IntKind.wrap .u8 ((BitVec.ofInt (IntKind.bits .u8) n7 &&& ~~~BitVec.ofInt (IntKind.bits .u8) (32:Int)).toNat:Int)) n9 μ2) (kB ρ 191 lW []))) (
 opt (Ay ρ al ai (IntKind.wrap .u8 ((BitVec.ofInt (IntKind.bits .u8) n7 &&& ~~~BitVec.ofInt (IntKind.bits .u8) (32:Int)).toNat:Int)) n9 μ2) (kB ρ 191 lW []))) pP:=by kernel_rfl
theorem Un (a μ):aC E ρ 192 [LV.str a] μ=
 callK (ρ.call 45 [LV.str a] μ) (fun v1 μ2 =>
 opt (aS v1) fun xs5=>
 opt (aA xs5) fun q6=>
 opt (aF .i64 q6.1) fun n7=>
 opt (aA q6.2) fun q8=>
 opt (dm q8.1) fun c9=>
 opt (aO q8.2) fun u10=>
 cond (decide ((10 : Int) < (List.length a : Int))) (
 callK (ρ.call 170 [LV.int .i64 (28 : Int)] μ2) (fun v11 μ12 =>
 opt (aS v11) fun xs15=>
 opt (aO xs15) fun u16=>
 callK (ρ.call 66 [LV.int .i64 n7] μ12) (fun v17 μ18 =>
 opt (aL v17) fun s21=>
 some (.ret (LV.cv (CV.agg [CV.int .i64 (1:Int),CV.int .i64 (0:Int),CV.str s21])) μ18)) pP) pP) (
 opt (Ai (LV.cv c9)) fun b22=>
 cond (!b22) (
 callK (ρ.call 170 [LV.int .i64 (28 : Int)] μ2) (fun v23 μ24 =>
 opt (aS v23) fun xs27=>
 opt (aO xs27) fun u28=>
 callK (ρ.call 66 [LV.int .i64 n7] μ24) (fun v29 μ30 =>
 opt (aL v29) fun s33=>
 some (.ret (LV.cv (CV.agg [CV.int .i64 (1:Int),CV.int .i64 (0:Int),CV.str s33])) μ30)) pP) pP) (
 cond (decide ((2147483647 : Int) < n7)) (
 callK (ρ.call 170 [LV.int .i64 (28 : Int)] μ2) (fun v34 μ35 =>
 opt (aS v34) fun xs38=>
 opt (aO xs38) fun u39=>
 callK (ρ.call 66 [LV.int .i64 n7] μ35) (fun v40 μ41 =>
 opt (aL v40) fun s44=>
 some (.ret (LV.cv (CV.agg [CV.int .i64 (1:Int),CV.int .i64 (0:Int),CV.str s44])) μ41)) pP) pP) (
 callK (ρ.call 66 [LV.int .i64 n7] μ2) (fun v45 μ46 =>
 opt (aL v45) fun s49=>
 some (.ret (LV.cv (CV.agg [CV.int .i64 (1:Int),CV.int .i64 (0:Int),CV.str s49])) μ46)) pP)))) pP:=by kernel_rfl
theorem Uo (a b μ):aC E ρ 193 [LV.str a,LV.str b] μ=
 callK (ρ.call 62 [LV.str a, LV.str ([48] : List UInt8)] μ) (fun v1 μ2 =>
 opt (aL v1) fun s5=>
 callK (ρ.call 63 [LV.str b, LV.str ([48] : List UInt8)] μ2) (fun v6 μ7 =>
 opt (aL v6) fun s10=>
 some (.ret (LV.int .i64 (IntKind.wrap .i64 ((List.length s5:Int)+(List.length s10:Int)))) μ7)) pP) pP:=by kernel_rfl
theorem Up (μ):aC E ρ 196 [] μ=
 some (.ret (LV.cv (CV.mview [Value.string ⟨⟨([60,61]:List UInt8)⟩⟩,Value.string ⟨⟨([62,61]:List UInt8)⟩⟩,Value.string ⟨⟨([61,61]:List UInt8)⟩⟩,Value.string ⟨⟨([47,61]:List UInt8)⟩⟩,Value.string ⟨⟨([60]:List UInt8)⟩⟩,Value.string ⟨⟨([62]:List UInt8)⟩⟩] [CV.str ([46,76,69,46]:List UInt8),CV.str ([46,71,69,46]:List UInt8),CV.str ([46,69,81,46]:List UInt8),CV.str ([46,78,69,46]:List UInt8),CV.str ([46,76,84,46]:List UInt8),CV.str ([46,71,84,46]:List UInt8)])) μ):=by kernel_rfl
end
end Go.Abs
set_option linter.unusedVariables false
set_option linter.unusedSimpArgs false
set_option maxRecDepth 100000
namespace Go.Abs
open Go Go.Proofs
def Sc (μ:Mu)(l i:Nat)(s:List UInt8)(fx:Bool)(r:List LV):Prop:=a8 μ l i= .cells (LV.str s::LV.bool fx::r)
def aQ:List UInt8→Nat
 |[]=>0
 |c::r=>if c=32 then aQ r+1 else 0
def skipN (fx:Bool)(s:List UInt8)(n:Nat):Nat:=if fx then n+aQ (s.drop n)else n
section
variable {μ:Mu}{l i:Nat}{s:List UInt8}{fx:Bool}{r:List LV}
theorem QG (h:Sc μ l i s fx r)(hs:s.length≤1000000): ∀(k n:Nat),n+k=s.length→AJ (ev E) l i (n:Int) μ=some (lC (skipN fx s n:Nat) μ):=by
 intro k
 induction k with
 |zero=>
  intro n hk
  refine ba ?_
  rw[BU,h]
  simp only[vU,qG,aa,ae,fA,dq,ah]
  have:List.drop n s=[]:=List.drop_eq_nil_of_le (by omega)
  have h1:decide ((n:Int)<(s.length:Int))=false:=by simp;omega
  rw[h1]
  cases fx<;>simp[skipN,aQ,this]
 |succ k ih=>
  intro n hk
  refine ba ?_
  rw[BU,h]
  simp only[vU,qG,aa,ae,fA,dq,ah]
  have h1:decide ((n:Int)<(s.length:Int))=true:=by simp;omega
  have hn:n<s.length:=by omega
  rw[h1,jG,List.getElem?_eq_getElem hn,aa]
  have hd:List.drop n s=s[n]::List.drop (n+1) s:=List.drop_eq_getElem_cons hn
  have e:IntKind.wrap .i64 ((n:Int)+1)=((n+1:Nat):Int):=by rw[cu (by omega) (by omega)];omega
  rw[e,ih (n+1) (by omega)]
  cases fx
  ·simp[skipN]
  ·simp only[cond_true,skipN,if_true,hd,aQ]
   by_cases hc:s[n]=32
   ·have:decide (((s[n]).toNat:Int)=32)=true:=by rw[hc];decide
    rw[this]
    simp only[cond_true,hc,if_true]
    congr 3
    omega
   ·have:decide (((s[n]).toNat:Int)=32)=false:=by
     simp only[decide_eq_false_iff_not]
     intro h2
     apply hc
     apply UInt8.toNat.inj
     have:(s[n]).toNat=32:=by omega
     rw[this];rfl
    rw[this]
    simp[hc]
theorem Sa (h:Sc μ l i s fx r)(hs:s.length≤1000000){n:Nat}(hn:n≤s.length):(ev E).call 190 [LV.cv (CV.ref l i 0),LV.int .i64 (n:Int)] μ=some (.ret (LV.int .i64 (skipN fx s n:Nat)) μ):=by
 refine aJ ?_
 rw[Ul,QG h hs (s.length-n) n (by omega),aa,D1]
theorem ju: ∀(l:List UInt8),aQ l≤l.length
 |[]=>Nat.le_refl _
 |c::r=>by
  unfold aQ
  have:=ju r
  split<;>simp<;>omega
theorem Cy {n:Nat}(hn:n≤s.length):skipN fx s n≤s.length:=by
 unfold skipN
 have:=ju (s.drop n)
 rw[List.length_drop]at this
 split<;>omega
theorem Cx {n:Nat}:n≤skipN fx s n:=by
 unfold skipN
 split<;>omega
def atC (fx:Bool)(s:List UInt8)(n:Nat):UInt8:=(s[skipN fx s n]?).getD 0
def atE (fx:Bool)(s:List UInt8)(n:Nat):Nat:=if skipN fx s n<s.length then skipN fx s n+1 else skipN fx s n
theorem hZ (h:Sc μ l i s fx r)(hs:s.length≤1000000){n:Nat}(hn:n≤s.length):
  (ev E).call 168 [LV.cv (CV.ref l i 0),LV.int .i64 (n:Int)] μ=some (.ret (.ltup [LV.int .u8 ((atC fx s n).toNat:Int),LV.int .i64 (atE fx s n:Nat)]) μ):=by
 refine aJ ?_
 rw[Ud,Sa h hs hn,ac,am,aa,h,fA,dq,aa,ah,aa]
 have hle:=Cy (fx:=fx) hn
 by_cases hlt:skipN fx s n<s.length
 ·have h1:decide ((s.length:Int)≤(skipN fx s n:Int))=false:=by simp;omega
  rw[h1,cond_false]
  have h2:Jw (ev E) l i (skipN fx s n:Nat) μ=some (rl ((atC fx s n).toNat:Int) (atE fx s n:Nat) μ):=by
   refine aT ?_
   rw[N2,h,fA,dq,aa,ah,aa,jG,List.getElem?_eq_getElem hlt,aa]
   simp only[atC,atE,hlt,if_true,List.getElem?_eq_getElem,Option.getD_some]
   rw[cu (by omega) (by omega)]
   rfl
  rw[h2,aa,Dw]
 ·have h1:decide ((s.length:Int)≤(skipN fx s n:Int))=true:=by simp;omega
  rw[h1,cond_true]
  have:s[skipN fx s n]? =none:=List.getElem?_eq_none (by omega)
  simp only[atC,atE,hlt,if_false,this,Option.getD_none]
  rfl
def eY (fx:Bool)(p:UInt8→Bool):List UInt8→Nat→List UInt8×Nat
 |[],_=>([],0)
 |c::r,k=>if fx&&c == 32 then eY fx p r (k+1)else if c != 0&&p c then(c::(eY fx p r 0).1,k+1+(eY fx p r 0).2)else([],0)
def cw (fx:Bool)(p:UInt8→Bool)(s:List UInt8)(n:Nat):List UInt8:=(eY fx p (s.drop n) 0).1
def runE (fx:Bool)(p:UInt8→Bool)(s:List UInt8)(n:Nat):Nat:=n+(eY fx p (s.drop n) 0).2
theorem uv {p:UInt8→Bool}: ∀(l:List UInt8) (k:Nat),eY true p l k=eY true p (l.drop (aQ l)) (k+aQ l)
 |[],k=>rfl
 |c::r,k=>by
  by_cases hc:c=32
  ·have e1:eY true p (c::r) k=eY true p r (k+1):=by simp[eY,hc]
   have e2:aQ (c::r)=aQ r+1:=by simp[aQ,hc]
   rw[e1,e2,uv r (k+1)]
   simp only[List.drop_succ_cons]
   congr 1
   omega
  ·have e2:aQ (c::r)=0:=by simp[aQ,hc]
   rw[e2];rfl
theorem lc: ∀(l:List UInt8) (c:UInt8) (r:List UInt8),l.drop (aQ l)=c::r→c≠32
 |[],c,r,h=>by simp[aQ]at h
 |d::t,c,r,h=>by
  by_cases hd:d=32
  ·have e2:aQ (d::t)=aQ t+1:=by simp[aQ,hd]
   rw[e2,List.drop_succ_cons]at h
   exact lc t c r h
  ·have e2:aQ (d::t)=0:=by simp[aQ,hd]
   rw[e2]at h
   simp only[List.drop_zero,List.cons.injEq]at h
   rw[←h.1];exact hd
theorem Cs {p:UInt8→Bool}{n:Nat}:(cw fx p s n,runE fx p s n)=if atC fx s n != 0&&p (atC fx s n)then(atC fx s n::cw fx p s (atE fx s n),runE fx p s (atE fx s n))else([],n):=by
 have key: ∀m k,skipN fx s n=m→m=n+k→eY fx p (s.drop n) 0=eY fx p (s.drop m) k→(∀c t,s.drop m=c::t→(fx&&c == 32)=false)→
   (cw fx p s n,runE fx p s n)=if atC fx s n != 0&&p (atC fx s n)then(atC fx s n::cw fx p s (atE fx s n),runE fx p s (atE fx s n))else([],n):=by
  intro m k hm hk hrun hc
  simp only[cw,runE,atC,atE,hm]
  rw[hrun]
  by_cases hlt:m<s.length
  ·have hd:s.drop m=s[m]::s.drop (m+1):=List.drop_eq_getElem_cons hlt
   have hc':=hc _ _ hd
   rw[hd]
   simp only[eY,hc',Bool.false_eq_true,if_false,List.getElem?_eq_getElem hlt,Option.getD_some,hlt,if_true]
   split
   ·simp only[Prod.mk.injEq,true_and];omega
   ·rfl
  ·have hd:s.drop m=[]:=List.drop_eq_nil_of_le (by omega)
   rw[hd]
   simp[eY,List.getElem?_eq_none (by omega:s.length≤m)]
 cases fx with
 |false=>exact key n 0 rfl rfl rfl fun c t _=>rfl
 |true=>
  refine key (n+aQ (s.drop n)) (aQ (s.drop n)) (by simp[skipN]) rfl ?_ fun c t h=> ?_
  ·rw[uv,List.drop_drop,Nat.zero_add]
  ·have:=lc (s.drop n) c t (by rw[List.drop_drop];exact h)
   simp[this]
theorem zr {p:UInt8→Bool}{n:Nat}(h:(atC fx s n != 0&&p (atC fx s n))=true):cw fx p s n=atC fx s n::cw fx p s (atE fx s n)∧runE fx p s n=runE fx p s (atE fx s n):=by
 have:=Cs (fx:=fx) (s:=s) (p:=p) (n:=n)
 rw[h,if_pos rfl,Prod.mk.injEq]at this
 exact this
theorem qD {p:UInt8→Bool}{n:Nat}(h:(atC fx s n != 0&&p (atC fx s n))=false):cw fx p s n=[]∧runE fx p s n=n:=by
 have:=Cs (fx:=fx) (s:=s) (p:=p) (n:=n)
 rw[h,if_neg (by simp),Prod.mk.injEq]at this
 exact this
theorem J8 {n:Nat}(h:atC fx s n≠0):n<atE fx s n∧atE fx s n≤s.length:=by
 have h1:=Cx (fx:=fx) (s:=s) (n:=n)
 by_cases hlt:skipN fx s n<s.length
 ·simp only[atE,hlt,if_true];omega
 ·exfalso
  apply h
  simp only[atC,List.getElem?_eq_none (by omega:s.length≤skipN fx s n),Option.getD_none]
theorem gv {n:Nat}(hn:n≤s.length):atE fx s n≤s.length:=by
 have:=Cy (fx:=fx) hn
 unfold atE
 split<;>omega
theorem og {c:UInt8}:decide ((c.toNat:Int)=0)= !(c != 0):=by
 by_cases h:c=0
 ·subst h;rfl
 ·have:c.toNat≠0:=fun h2=>h (UInt8.toNat.inj h2)
  have h1:(c != 0)=true:=by simpa using h
  rw[h1]
  simp only[Bool.not_true,decide_eq_false_iff_not]
  omega
theorem QD (h:Sc μ l i s fx r)(hs:s.length≤1000000){f:FuncId}{p:UInt8→Bool}(hp: ∀c:UInt8,(ev E).call f [LV.int .u8 (c.toNat:Int)] μ=some (.ret (LV.bool (p c)) μ)):
  ∀(k n:Nat) (acc:List UInt8),s.length-n≤k→n≤s.length→acc.length+(s.length-n)≤1000000→AG (ev E) l i (n:Int) f (aW acc) μ=some (nD (acc++cw fx p s n) (runE fx p s n:Nat) μ):=by
 intro k
 induction k with
 |zero=>
  intro n acc hk hn ha
  refine ba ?_
  rw[BR,hZ h hs hn]
  simp only[ac,aq,aa,ak,am,aj]
  have h0:atC fx s n=0:=by
   by_cases h0:atC fx s n=0
   ·exact h0
   ·have:=J8 h0;omega
  obtain⟨h1,h2⟩:=qD (fx:=fx) (s:=s) (p:=p) (n:=n) (by rw[h0];rfl)
  rw[h0,h1,h2]
  simp only[og,cS,aa,List.append_nil]
  rfl
 |succ k ih=>
  intro n acc hk hn ha
  refine ba ?_
  rw[BR,hZ h hs hn]
  simp only[ac,aq,aa,ak,am,aj,og]
  by_cases h0:atC fx s n=0
  ·obtain⟨h1,h2⟩:=qD (fx:=fx) (s:=s) (p:=p) (n:=n) (by rw[h0];rfl)
   rw[h0,h1,h2]
   simp only[cS,aa,List.append_nil]
   rfl
  ·have h3:(atC fx s n != 0)=true:=by simp[h0]
   rw[h3,Bool.not_true,cond_false,hp,ac,ae,aa]
   cases hpc:p (atC fx s n)with
   |false=>
    obtain⟨h1,h2⟩:=qD (fx:=fx) (s:=s) (p:=p) (n:=n) (by rw[hpc];simp)
    rw[h1,h2]
    simp only[Bool.not_false,cond_true,cS,aa,List.append_nil]
   |true=>
    obtain⟨h1,h2⟩:=zr (fx:=fx) (s:=s) (p:=p) (n:=n) (by rw[hpc,h3];rfl)
    obtain⟨h4,h5⟩:=J8 h0
    have h6:Jx (ev E) l i f (aW acc) ((atC fx s n).toNat:Int) (atE fx s n:Nat) μ=some (rm l i (atE fx s n:Nat) f (aW (acc++[atC fx s n])) μ):=by
     refine aT ?_
     have e:[CV.int .u8 ((atC fx s n).toNat:Int)]=aW [atC fx s n]:=rfl
     rw[N3,e,tS (by simp;omega),ay,n0]
    simp only[Bool.not_true,cond_false,h6,aa,Dx]
    rw[ih (atE fx s n) (acc++[atC fx s n]) (by omega) h5 (by simp;omega),h1,h2]
    simp
theorem oT (h:Sc μ l i s fx r)(hs:s.length≤1000000){f:FuncId}{p:UInt8→Bool}(hp: ∀c:UInt8,(ev E).call f [LV.int .u8 (c.toNat:Int)] μ=some (.ret (LV.bool (p c)) μ)){n:Nat}(hn:n≤s.length):
  (ev E).call 169 [LV.cv (CV.ref l i 0),LV.int .i64 (n:Int),LV.cv (CV.clo f [])] μ=some (.ret (.ltup [LV.str (cw fx p s n),LV.int .i64 (runE fx p s n:Nat)]) μ):=by
 refine aJ ?_
 have:=QD h hs hp (s.length-n) n [] (Nat.le_refl _) hn (by simp;omega)
 have e:aW []=[]:=rfl
 rw[e,List.nil_append]at this
 rw[Ue,this,aa,DX]
end
end Go.Abs
namespace Go.Abs
def aV (c:UInt8):Bool:=(decide (97≤c.toNat)&&decide (c.toNat≤122))||(decide (65≤c.toNat)&&decide (c.toNat≤90))
def av (c:UInt8):Bool:=decide (48≤c.toNat)&&decide (c.toNat≤57)
def aY (c:UInt8):Bool:=aV c||av c||decide (c.toNat=95)
end Go.Abs
