/-
  The statement ExprChecksCardSaid, proved; part 7 of 10 of its proof.
  Normal forms. Printed by a program.
-/
import Derived.Test.YtmemoghbijcebaaGreatDoorP4
set_option linter.all false
set_option linter.unusedSectionVars false
set_option linter.unusedVariables false
set_option maxRecDepth 1000000
namespace Go.Abs
open Go Go.Proofs
noncomputable section
variable (ρ:Rho)
def SX (x0:List CV):SegD:=⟨H8,[(2,0)],cA 8 [1,1],mS [(0,LV.cv (CV.sl x0))] []⟩
def UV (x0:List CV)(μ:Mu):=(SX x0).seg ρ μ
def vo (x2:Bool)(μ:Mu):St:= .ret (mS [(2,LV.bool x2)] []) μ
def SY (x0:List CV):SegD:=⟨H8,[(2,0)],cA 8 [1,1,1],mS [(0,LV.cv (CV.sl x0))] []⟩
def UW (x0:List CV)(μ:Mu):=(SY x0).seg ρ μ
def pO (x2:Bool)(μ:Mu):St:= .ret (mS [(2,LV.bool x2)] []) μ
def N9 (x0:List CV)(x5 x6 x8:Int):SegD:=⟨H8,[(2,0)],cA 8 [1,1,1,1,1,1,1],mS [(0,LV.cv (CV.sl x0)),(5,LV.int .i64 x5),(6,LV.int .i64 x6),(8,LV.int .i64 x8)] []⟩
def Ks (x0:List CV)(x5 x6 x8:Int)(μ:Mu):=(N9 x0 x5 x6 x8).seg ρ μ
def nH (x2:Bool)(μ:Mu):St:= .ret (mS [(2,LV.bool x2)] []) μ
def Oa (x0:List CV)(x5 x6:Int):SegD:=⟨H8,[(2,0)],cA 8 [1,1,1,1,1,1,1,1],mS [(0,LV.cv (CV.sl x0)),(5,LV.int .i64 x5),(6,LV.int .i64 x6)] []⟩
def SU (x0:List CV)(x5 x6:Int)(μ:Mu):=(Oa x0 x5 x6).seg ρ μ
def wR (x2:Bool)(μ:Mu):St:= .ret (mS [(2,LV.bool x2)] []) μ
def CY (pv:CV)(μ:Mu):St:= .panic pv (mS [] []) μ
def pQ (pv:CV)(μ:Mu):St:= .panic pv (mS [] []) μ
def Tq (pv:CV)(μ:Mu):St:= .panic pv (mS [] []) μ
theorem Ur (x0 x5 x6 μ):(Oa x0 x5 x6).sK ρ μ=
 cond (decide (x6 = (0 : Int))) (
 callK (ρ.call 36 [LV.cv (CV.sl x0)] μ) (fun v51 μ52 =>
 eS v51 fun n55 n56 s57 l58=>
 callK (ρ.call 32 [LV.int .i64 n55] μ52) (fun v59 μ60 =>
 opt (aC .i64 v59) fun n63=>
 some (wR (decide (x5=n63)) μ60)) (pX CY)) (pX CY)) (
 some (wR false μ)):=by kernel_rfl
theorem JY (x0 x5 x6 x8 μ):(N9 x0 x5 x6 x8).sK ρ μ=
 cond (!decide (x8 = (0 : Int))) (
 cond (decide (x6 = x8)) (
 some (nH (decide (x5=(0:Int))) μ)) (
 some (nH false μ))) (
 opt (SU ρ x0 x5 x6 μ) (kS ρ H8 [] [(2,0)])):=by kernel_rfl
theorem zf (x2 μ):kS ρ H8 [] [(2,0)] (nH x2 μ)=
 some (pO x2 μ):=by kernel_rfl
theorem We (x0 μ):(SY x0).sK ρ μ=
 callK (ρ.call 17 [LV.cv (CV.sl x0)] μ) (fun v11 μ12 =>
 opt (bp v11) fun l15=>
 callK (ρ.call 33 [LV.cv (CV.sl l15)] μ12) (fun v16 μ17 =>
 opt (aT v16) fun xs20=>
 opt (aw xs20) fun q21=>
 opt (aC .i64 q21.1) fun n22=>
 opt (aw q21.2) fun q23=>
 opt (aC .i64 q23.1) fun n24=>
 opt (aO q23.2) fun u25=>
 callK (ρ.call 17 [LV.cv (CV.sl x0)] μ17) (fun v26 μ27 =>
 opt (bp v26) fun l30=>
 callK (ρ.call 34 [LV.cv (CV.sl l30)] μ27) (fun v31 μ32 =>
 opt (aT v31) fun xs35=>
 opt (aw xs35) fun q36=>
 opt (aC .i64 q36.1) fun n37=>
 opt (aw q36.2) fun q38=>
 opt (aC .i64 q38.1) fun n39=>
 opt (aO q38.2) fun u40=>
 callK (ρ.call 35 [LV.cv (CV.sl x0)] μ32) (fun v41 μ42 =>
 opt (aT v41) fun xs45=>
 opt (aw xs45) fun q46=>
 opt (aC .i64 q46.1) fun n47=>
 opt (aw q46.2) fun q48=>
 opt (aC .i64 q48.1) fun n49=>
 opt (aO q48.2) fun u50=>
 cond (!decide (n24 = n49)) (
 some (pO false μ42)) (
 cond (!decide (n22 = n47)) (
 some (pO false μ42)) (
 opt (Ks ρ x0 n37 n39 n49 μ42) (kS ρ H8 [] [(2,0)])))) (pX pQ)) (pX pQ)) (pX pQ)) (pX pQ)) (pX pQ):=by kernel_rfl
theorem PN (x2 μ):kS ρ H8 [] [(2,0)] (pO x2 μ)=
 some (vo x2 μ):=by kernel_rfl
theorem Wd (x0 μ):(SX x0).sK ρ μ=
 callK (ρ.call 21 [LV.cv (CV.sl x0)] μ) (fun v6 μ7 =>
 opt (aM v6) fun b10=>
 cond (!b10) (
 some (vo true μ7)) (
 opt (UW ρ x0 μ7) (kS ρ H8 [] [(2,0)]))) (pX Tq):=by kernel_rfl
theorem PM (x2 μ):kB ρ 8 H8 [] (vo x2 μ)=
 some (.ret (LV.bool x2) μ):=by kernel_rfl
theorem nf8 (a μ):aD E ρ 8 [LV.cv (CV.sl a)] μ=
 callK (ρ.call 12 [] μ) (fun v1 μ2 =>
 opt (aM v1) fun b5=>
 cond (!b5) (
 some (.ret (LV.bool false) μ2)) (
 opt (UV ρ a μ2) (kB ρ 8 H8 []))) pP:=by kernel_rfl
theorem Y0 (μ):aD E ρ 12 [] μ=
 callK (ρ.call 13 [LV.str ([97, 32, 43, 32, 98, 42, 99] : List UInt8)] μ) (fun v1 μ2 =>
 opt (aT v1) fun xs5=>
 opt (aw xs5) fun q6=>
 opt (bp q6.1) fun l7=>
 opt (aw q6.2) fun q8=>
 opt (aC .i64 q8.1) fun n9=>
 opt (aO q8.2) fun u10=>
 callK (ρ.call 22 [LV.cv (CV.sl l7)] μ2) (fun v11 μ12 =>
 opt (aT v11) fun xs15=>
 opt (aw xs15) fun q16=>
 opt (aN q16.1) fun s17=>
 opt (aw q16.2) fun q18=>
 opt (aC .i64 q18.1) fun n19=>
 opt (aO q18.2) fun u20=>
 callK (ρ.call 13 [LV.str ([120, 40, 105, 44, 50, 58, 110, 41, 32, 46, 108, 116, 46, 32, 40, 49, 46, 53, 44, 45, 50, 41] : List UInt8)] μ12) (fun v21 μ22 =>
 opt (aT v21) fun xs25=>
 opt (aw xs25) fun q26=>
 opt (bp q26.1) fun l27=>
 opt (aw q26.2) fun q28=>
 opt (aC .i64 q28.1) fun n29=>
 opt (aO q28.2) fun u30=>
 callK (ρ.call 16 [LV.cv (CV.sl l27)] μ22) (fun v31 μ32 =>
 opt (aT v31) fun xs35=>
 opt (aw xs35) fun q36=>
 opt (aN q36.1) fun s37=>
 opt (aw q36.2) fun q38=>
 opt (aC .i64 q38.1) fun n39=>
 opt (aO q38.2) fun u40=>
 callK (ρ.call 13 [LV.str ([40, 40, 65, 42, 66, 41, 41, 43, 40, 67, 41] : List UInt8)] μ32) (fun v41 μ42 =>
 opt (aT v41) fun xs45=>
 opt (aw xs45) fun q46=>
 opt (bp q46.1) fun l47=>
 opt (aw q46.2) fun q48=>
 opt (aC .i64 q48.1) fun n49=>
 opt (aO q48.2) fun u50=>
 callK (ρ.call 26 [LV.cv (CV.sl l47)] μ42) (fun v51 μ52 =>
 opt (aT v51) fun xs55=>
 opt (aw xs55) fun q56=>
 opt (bp q56.1) fun l57=>
 opt (aw q56.2) fun q58=>
 opt (aC .i64 q58.1) fun n59=>
 opt (aO q58.2) fun u60=>
 callK (ρ.call 16 [LV.cv (CV.sl l57)] μ52) (fun v61 μ62 =>
 opt (aT v61) fun xs65=>
 opt (aw xs65) fun q66=>
 opt (aN q66.1) fun s67=>
 opt (aw q66.2) fun q68=>
 opt (aC .i64 q68.1) fun n69=>
 opt (aO q68.2) fun u70=>
 cond (decide (n9 = (0 : Int))) (
 cond (decide ((List.length l7 : Int) = (5 : Int))) (
 cond (decide (n19 = (0 : Int))) (
 cond (decide (s17 = ([91, 65, 43, 91, 66, 42, 67, 93, 93] : List UInt8))) (
 cond (decide (n29 = (0 : Int))) (
 cond (decide (n39 = (0 : Int))) (
 cond (decide (s37 = ([88, 40, 73, 44, 50, 58, 78, 41, 46, 76, 84, 46, 40, 49, 46, 53, 44, 45, 50, 41] : List UInt8))) (
 cond (decide (n49 = (0 : Int))) (
 cond (decide (n59 = (0 : Int))) (
 cond (decide (n69 = (0 : Int))) (
 some (.ret (LV.bool (decide (s67=([65,42,66,43,67]:List UInt8)))) μ62)) (
 some (.ret (LV.bool false) μ62))) (
 some (.ret (LV.bool false) μ62))) (
 some (.ret (LV.bool false) μ62))) (
 some (.ret (LV.bool false) μ62))) (
 some (.ret (LV.bool false) μ62))) (
 some (.ret (LV.bool false) μ62))) (
 some (.ret (LV.bool false) μ62))) (
 some (.ret (LV.bool false) μ62))) (
 some (.ret (LV.bool false) μ62))) (
 some (.ret (LV.bool false) μ62))) pP) pP) pP) pP) pP) pP) pP:=by kernel_rfl
def NN (x4:List CV):SegD:=⟨H13,[(2,2),(3,0)],cA 13 [1,1,1],mS [(4,LV.cv (CV.sl x4))] []⟩
def SG (x4:List CV)(μ:Mu):=(NN x4).seg ρ μ
def qB (x2:List CV)(x3:Int)(μ:Mu):St:= .ret (mS [(2,LV.cv (CV.sl x2)),(3,LV.int .i64 x3)] []) μ
def NO (x4 x7:List CV)(x8:Int):SegD:=⟨H13,[(2,2),(3,0)],cA 13 [1,1,1,1,1],mS [(4,LV.cv (CV.sl x4)),(7,LV.cv (CV.sl x7)),(8,LV.int .i64 x8)] []⟩
def SH (x4 x7:List CV)(x8:Int)(μ:Mu):=(NO x4 x7 x8).seg ρ μ
def qC (x2:List CV)(x3:Int)(μ:Mu):St:= .ret (mS [(2,LV.cv (CV.sl x2)),(3,LV.int .i64 x3)] []) μ
def Qu (pv:CV)(μ:Mu):St:= .panic pv (mS [] []) μ
theorem Ub (x4 x7 x8 μ):(NO x4 x7 x8).sK ρ μ=
 cond (decide (x8 < (List.length x4 : Int))) (
 some (qC [] (7:Int) μ)) (
 some (qC x7 (0:Int) μ)):=by kernel_rfl
theorem Lx (x2 x3 μ):kS ρ H13 [] [(2,2),(3,0)] (qC x2 x3 μ)=
 some (qB x2 x3 μ):=by kernel_rfl
theorem Ua (x4 μ):(NN x4).sK ρ μ=
 callK (ρ.call 18 [LV.cv (CV.sl x4)] μ) (fun v13 μ14 =>
 opt (aT v13) fun xs17=>
 opt (aw xs17) fun q18=>
 opt (bp q18.1) fun l19=>
 opt (aw q18.2) fun q20=>
 opt (aC .i64 q20.1) fun n21=>
 opt (aw q20.2) fun q22=>
 opt (aC .i64 q22.1) fun n23=>
 opt (aO q22.2) fun u24=>
 cond (!decide (n23 = (0 : Int))) (
 some (qB [] n23 μ14)) (
 opt (SH ρ x4 l19 n21 μ14) (kS ρ H13 [] [(2,2),(3,0)]))) (pX Qu):=by kernel_rfl
theorem Lw (x2 x3 μ):kB ρ 13 H13 [] (qB x2 x3 μ)=
 some (.ret (LV.ltup [LV.cv (CV.sl x2),LV.int .i64 x3]) μ):=by kernel_rfl
theorem Y1 (a μ):aD E ρ 13 [LV.str a] μ=
 callK (ρ.call 51 [LV.str a] μ) (fun v1 μ2 =>
 opt (aT v1) fun xs5=>
 opt (aw xs5) fun q6=>
 opt (bp q6.1) fun l7=>
 opt (aw q6.2) fun q8=>
 opt (aC .i64 q8.1) fun n9=>
 opt (aw q8.2) fun q10=>
 opt (aC .i64 q10.1) fun n11=>
 opt (aO q10.2) fun u12=>
 cond (!decide (n11 = (0 : Int))) (
 some (.ret (LV.ltup [LV.cv (CV.v (.slice none 0 0)),LV.int .i64 n11]) μ2)) (
 opt (SG ρ l7 μ2) (kB ρ 13 H13 []))) pP:=by kernel_rfl
def Od (x0 x3:List CV)(x4:Int):SegD:=⟨H17,[(3,1)],cA 17 [1,1,0,1,0,0],mS [(0,LV.cv (CV.sl x0)),(3,LV.osl x3),(4,LV.int .i64 x4)] []⟩
def KE (x0 x3:List CV)(x4:Int)(μ:Mu):=(Od x0 x3 x4).loop ρ μ
def wS (x3:List CV)(μ:Mu):St:= .exit 0 (mS [(3,LV.osl x3)] []) μ
theorem JZ (x0 x3 x4 μ):(Od x0 x3 x4).rK ρ μ=
 cond (decide (x4 < (List.length x0 : Int))) (
 opt (bm x0 x4) fun c1=>
 eS (LV.cv c1) fun n2 n3 s4 l5=>
 opt (bm x0 x4) fun c6=>
 eS (LV.cv c6) fun n7 n8 s9 l10=>
 opt (bm x0 x4) fun c11=>
 eS (LV.cv c11) fun n12 n13 s14 l15=>
 opt (bm x0 x4) fun c16=>
 eS (LV.cv c16) fun n17 n18 s19 l20=>
 callK (ρ.call 54 [LV.cv (CV.sl l20)] μ) (fun v21 μ22 =>
 opt (bp v21) fun l25=>
 ax (dQ 4 x3 [CV.agg [CV.int .i64 n2, CV.int .i64 n8, CV.str s14, CV.sl l25]]) (
 KE ρ x0 (x3++[CV.agg [CV.int .i64 n2,CV.int .i64 n8,CV.str s14,CV.sl l25]]) (IntKind.wrap .i64 (x4+(1:Int))) μ22)) pN) (
 some (wS x3 μ)):=by kernel_rfl
theorem LT (x3 μ):kB ρ 17 H17 [.block 0,.seq (cA 17 [1,1,1])] (wS x3 μ)=
 some (.ret (LV.osl x3) μ):=by kernel_rfl
theorem Y2 (a μ):aD E ρ 17 [LV.cv (CV.sl a)] μ=
 opt (KE ρ a [] (0:Int) μ) (kB ρ 17 H17 [.block 0,.seq (cA 17 [1,1,1])]):=by kernel_rfl
def NP (x0:List CV):SegD:=⟨H21,[(2,0)],cA 21 [1,1],mS [(0,LV.cv (CV.sl x0))] []⟩
def BZ (x0:List CV)(μ:Mu):=(NP x0).seg ρ μ
def Oe (x0:List CV)(x3:Int):SegD:=⟨H21,[],cA 21 [1,1,0,1,0,0],mS [(0,LV.cv (CV.sl x0)),(3,LV.int .i64 x3)] []⟩
def KF (x0:List CV)(x3:Int)(μ:Mu):=(Oe x0 x3).loop ρ μ
def qS (x2:Bool)(μ:Mu):St:= .ret (mS [(2,LV.bool x2)] []) μ
def wT (μ:Mu):St:= .exit 0 (mS [] []) μ
def qJ (x2:Bool)(μ:Mu):St:= .ret (mS [(2,LV.bool x2)] []) μ
theorem J0 (x0 x3 μ):(Oe x0 x3).rK ρ μ=
 cond (decide (x3 < (List.length x0 : Int))) (
 opt (bm x0 x3) fun c1=>
 eS (LV.cv c1) fun n2 n3 s4 l5=>
 cond (decide ((9 : Int) < (List.length l5 : Int))) (
 some (qS false μ)) (
 opt (bm x0 x3) fun c6=>
 eS (LV.cv c6) fun n7 n8 s9 l10=>
 cond (decide ((130 : Int) < (List.length s9 : Int))) (
 some (qS false μ)) (
 KF ρ x0 (IntKind.wrap .i64 (x3+(1:Int))) μ))) (
 some (wT μ)):=by kernel_rfl
theorem LU (x2 μ):kS ρ H21 [.block 0,.seq (cA 21 [1,1,1])] [(2,0)] (qS x2 μ)=
 some (qJ x2 μ):=by kernel_rfl
theorem LW (μ):kS ρ H21 [.block 0,.seq (cA 21 [1,1,1])] [(2,0)] (wT μ)=
 some (qJ true μ):=by kernel_rfl
theorem Uc (x0 μ):(NP x0).sK ρ μ=
 opt (KF ρ x0 (0:Int) μ) (kS ρ H21 [.block 0,.seq (cA 21 [1,1,1])] [(2,0)]):=by kernel_rfl
theorem Ly (x2 μ):kB ρ 21 H21 [] (qJ x2 μ)=
 some (.ret (LV.bool x2) μ):=by kernel_rfl
theorem Y3 (a μ):aD E ρ 21 [LV.cv (CV.sl a)] μ=
 cond (decide ((40 : Int) < (List.length a : Int))) (
 cond (decide ((List.length a : Int) ≤ (120 : Int))) (
 some (.ret (LV.bool false) μ)) (
 cond (decide ((122 : Int) < (List.length a : Int))) (
 some (.ret (LV.bool false) μ)) (
 opt (BZ ρ a μ) (kB ρ 21 H21 [])))) (
 cond (decide ((122 : Int) < (List.length a : Int))) (
 some (.ret (LV.bool false) μ)) (
 opt (BZ ρ a μ) (kB ρ 21 H21 []))):=by kernel_rfl
def NQ (x0:List UInt8):SegD:=⟨H25,[(2,2),(3,0),(4,0)],cA 25 [1,1],mS [(0,LV.str x0)] []⟩
def SI (x0:List UInt8)(μ:Mu):=(NQ x0).seg ρ μ
def Of (x0:List UInt8)(x6:List CV)(x7:Int):SegD:=⟨H25,[(6,1)],cA 25 [1,1,1,1,0,0,0],mS [(0,LV.str x0),(6,LV.osl x6),(7,LV.int .i64 x7)] []⟩
def vg (x0:List UInt8)(x6:List CV)(x7:Int)(μ:Mu):=(Of x0 x6 x7).loop ρ μ
def NR (x0:List UInt8)(x6:List CV)(x7:Int):SegD:=⟨H25,[(0,0),(6,1),(7,0)],cA 25 [1,1,1,1,0,0,0,1,0,1],mS [(0,LV.str x0),(6,LV.osl x6),(7,LV.int .i64 x7)] []⟩
def Ko (x0:List UInt8)(x6:List CV)(x7:Int)(μ:Mu):=(NR x0 x6 x7).seg ρ μ
def wL (x2:List CV)(x3 x4:Int)(μ:Mu):St:= .ret (mS [(2,LV.cv (CV.sl x2)),(3,LV.int .i64 x3),(4,LV.int .i64 x4)] []) μ
def IV (x0:List UInt8)(x6:List CV)(o0_0 o0_1:Int)(o0_2:List UInt8)(o0_3 o0_4:Int):SegD:=⟨H25,[(0,0),(6,1),(7,0)],cA 25 [1,1,1,1,0,0,0,1,0,1,1,1],mS [(0,LV.str x0),(6,LV.osl x6),(8,LV.loc 0 0)] [Ob.cells [LV.int .i64 o0_0,LV.int .i64 o0_1,LV.str o0_2,LV.int .i64 o0_3,LV.int .i64 o0_4]]⟩
def MX (x0:List UInt8)(x6:List CV)(o0_0 o0_1:Int)(o0_2:List UInt8)(o0_3 o0_4:Int)(μ:Mu):=(IV x0 x6 o0_0 o0_1 o0_2 o0_3 o0_4).seg ρ μ
def sZ (x0:List UInt8)(x6:List CV)(x7:Int)(μ:Mu):St:= .norm (mS [(0,LV.str x0),(6,LV.osl x6),(7,LV.int .i64 x7)] []) μ
def wM (x0:List UInt8)(x6:List CV)(x7:Int)(μ:Mu):St:= .norm (mS [(0,LV.str x0),(6,LV.osl x6),(7,LV.int .i64 x7)] []) μ
def Qv (pv:CV)(μ:Mu):St:= .panic pv (mS [] []) μ
def wU (x2:List CV)(x3 x4:Int)(μ:Mu):St:= .ret (mS [(2,LV.cv (CV.sl x2)),(3,LV.int .i64 x3),(4,LV.int .i64 x4)] []) μ
def wV (x6:List CV)(μ:Mu):St:= .exit 0 (mS [(6,LV.osl x6)] []) μ
def nC (x2:List CV)(x3 x4:Int)(μ:Mu):St:= .ret (mS [(2,LV.cv (CV.sl x2)),(3,LV.int .i64 x3),(4,LV.int .i64 x4)] []) μ
theorem RM (x0 x6 o0_0 o0_1 o0_2 o0_3 o0_4 μ):(IV x0 x6 o0_0 o0_1 o0_2 o0_3 o0_4).sK ρ μ=
 ax (dQ 3 x6 [CV.agg [CV.int .i64 o0_0, CV.int .i64 o0_1, CV.str o0_2]]) (
 some (sZ x0 (x6++[CV.agg [CV.int .i64 o0_0,CV.int .i64 o0_1,CV.str o0_2]]) o0_3 μ)):=by kernel_rfl
theorem GY (x0 x6 x7 μ):kS ρ H25 [] [(0,0),(6,1),(7,0)] (sZ x0 x6 x7 μ)=
 some (wM x0 x6 x7 μ):=by kernel_rfl
theorem JU (x0 x6 x7 μ):(NR x0 x6 x7).sK ρ μ=
 callK (ρ.call 63 [LV.str x0, LV.int .i64 x7] μ) (fun v7 μ8 =>
 zp v7 fun n11 n12 s13 n14 n15=>
 cond (!decide (n15 = (0 : Int))) (
 some (wL [] x7 n15 μ8)) (
 opt (MX ρ x0 x6 n11 n12 s13 n14 n15 μ8) (kS ρ H25 [] [(0,0),(6,1),(7,0)]))) (pX Qv):=by kernel_rfl
theorem LA (x2 x3 x4 μ):kR ρ H25 [.block 1] [(6,1)] (cA 25 [1,1,1,1,0,0,0]) (wL x2 x3 x4 μ)=
 some (wU x2 x3 x4 μ):=by kernel_rfl
theorem LB (x0 x6 x7 μ):kR ρ H25 [.block 1] [(6,1)] (cA 25 [1,1,1,1,0,0,0]) (wM x0 x6 x7 μ)=
 vg ρ x0 x6 x7 μ:=by kernel_rfl
theorem Aw (x0 x6 x7 μ):(Of x0 x6 x7).rK ρ μ=
 cond (decide (x7 < (List.length x0 : Int))) (
 opt (bu x0 x7) fun y6=>
 cond (decide ((y6.toNat : Int) = (32 : Int))) (
 vg ρ x0 x6 (IntKind.wrap .i64 (x7+(1:Int))) μ) (
 opt (Ko ρ x0 x6 x7 μ) (kR ρ H25 [.block 1] [(6,1)] (cA 25 [1,1,1,1,0,0,0])))) (
 some (wV x6 μ)):=by kernel_rfl
theorem LZ (x2 x3 x4 μ):kS ρ H25 [.block 0,.seq (cA 25 [1,1,1,1,1])] [(2,2),(3,0),(4,0)] (wU x2 x3 x4 μ)=
 some (nC x2 x3 x4 μ):=by kernel_rfl
theorem L0 (x6 μ):kS ρ H25 [.block 0,.seq (cA 25 [1,1,1,1,1])] [(2,2),(3,0),(4,0)] (wV x6 μ)=
 cond (decide ((300 : Int) < (List.length x6 : Int))) (
 some (nC [] (0:Int) (8:Int) μ)) (
 some (nC x6 (List.length x6:Int) (0:Int) μ)):=by kernel_rfl
theorem Ud (x0 μ):(NQ x0).sK ρ μ=
 opt (vg ρ x0 [] (0:Int) μ) (kS ρ H25 [.block 0,.seq (cA 25 [1,1,1,1,1])] [(2,2),(3,0),(4,0)]):=by kernel_rfl
theorem Lz (x2 x3 x4 μ):kB ρ 25 H25 [] (nC x2 x3 x4 μ)=
 some (.ret (LV.ltup [LV.cv (CV.sl x2),LV.int .i64 x3,LV.int .i64 x4]) μ):=by kernel_rfl
theorem Y4 (a μ):aD E ρ 25 [LV.str a] μ=
 callK (ρ.call 62 [LV.str a] μ) (fun v1 μ2 =>
 opt (aC .i64 v1) fun n5=>
 cond (!decide (n5 = (0 : Int))) (
 some (.ret (LV.ltup [LV.cv (CV.v (.slice none 0 0)),LV.int .i64 (0:Int),LV.int .i64 n5]) μ2)) (
 opt (SI ρ a μ2) (kB ρ 25 H25 []))) pP:=by kernel_rfl
theorem Y5 (a b c μ):aD E ρ 30 [LV.int .i64 a,LV.int .i64 b,LV.int .i64 c] μ=
 cond (decide (a < b)) (
 some (.ret (LV.bool false) μ)) (
 some (.ret (LV.bool (!(decide (c<a)))) μ)):=by kernel_rfl
def NS (x0 x3:Int)(x6:Bool):SegD:=⟨H32,[(0,0)],cA 32 [1,0,1,0,1,1,1],mS [(0,LV.int .i64 x0),(3,LV.int .i64 x3),(6,LV.bool x6)] []⟩
def B0 (x0 x3:Int)(x6:Bool)(μ:Mu):=(NS x0 x3 x6).seg ρ μ
def nD (x2:Int)(μ:Mu):St:= .ret (mS [(2,LV.int .i64 x2)] []) μ
def IW (x0 x3:Int)(x9:Bool):SegD:=⟨H32,[(0,0)],cA 32 [1,0,1,0,1,1,1,1,1],mS [(0,LV.int .i64 x0),(3,LV.int .i64 x3),(9,LV.bool x9)] []⟩
def pF (x0 x3:Int)(x9:Bool)(μ:Mu):=(IW x0 x3 x9).seg ρ μ
def fT (x2:Int)(μ:Mu):St:= .ret (mS [(2,LV.int .i64 x2)] []) μ
def oD (x0:Int)(μ:Mu):St:= .norm (mS [(0,LV.int .i64 x0)] []) μ
def qK (x0:Int)(μ:Mu):St:= .norm (mS [(0,LV.int .i64 x0)] []) μ
theorem RN (x0 x3 x9 μ):(IW x0 x3 x9).sK ρ μ=
 cond (x9) (
 some (fT (7:Int) μ)) (
 cond (decide (x3 = (14 : Int))) (
 some (fT (6:Int) μ)) (
 cond (decide (x3 = (8 : Int))) (
 some (fT (4:Int) μ)) (
 cond (decide (x3 = (21 : Int))) (
 some (fT (3:Int) μ)) (
 cond (decide (x3 = (22 : Int))) (
 some (fT (2:Int) μ)) (
 cond (decide (x3 = (23 : Int))) (
 cond (decide (x3 = (23 : Int))) (
 some (fT (1:Int) μ)) (
 some (oD x0 μ))) (
 cond (decide (x3 = (24 : Int))) (
 some (fT (1:Int) μ)) (
 some (oD x0 μ)))))))):=by kernel_rfl
theorem GZ (x2 μ):kS ρ H32 [] [(0,0)] (fT x2 μ)=
 some (nD x2 μ):=by kernel_rfl
theorem G5 (x0 μ):kS ρ H32 [] [(0,0)] (oD x0 μ)=
 some (qK x0 μ):=by kernel_rfl
theorem Ue (x0 x3 x6 μ):(NS x0 x3 x6).sK ρ μ=
 cond (x6) (
 some (nD (8:Int) μ)) (
 cond (decide (x3 = (6 : Int))) (
 opt (pF ρ x0 x3 (decide (x3=(6:Int))) μ) (kS ρ H32 [] [(0,0)])) (
 cond (decide (x3 = (7 : Int))) (
 opt (pF ρ x0 x3 (decide (x3=(7:Int))) μ) (kS ρ H32 [] [(0,0)])) (
 cond (decide (x3 = (12 : Int))) (
 opt (pF ρ x0 x3 (decide (x3=(12:Int))) μ) (kS ρ H32 [] [(0,0)])) (
 opt (pF ρ x0 x3 (decide (x3=(13:Int))) μ) (kS ρ H32 [] [(0,0)]))))):=by kernel_rfl
theorem LC (x2 μ):kB ρ 32 H32 [.block 0,.seq (cA 32 [1,1])] (nD x2 μ)=
 some (.ret (LV.int .i64 x2) μ):=by kernel_rfl
theorem LD (x0 μ):kB ρ 32 H32 [.block 0,.seq (cA 32 [1,1])] (qK x0 μ)=
 callK (ρ.call 30 [LV.int .i64 x0, LV.int .i64 (15 : Int), LV.int .i64 (20 : Int)] μ) (fun v5 μ6 =>
 opt (aM v5) fun b9=>
 cond (b9) (
 some (.ret (LV.int .i64 (5:Int)) μ6)) (
 some (.ret (LV.int .i64 (10:Int)) μ6))) pP:=by kernel_rfl
theorem Y6 (a μ):aD E ρ 32 [LV.int .i64 a] μ=
 cond (decide (a = (9 : Int))) (
 some (.ret (LV.int .i64 (9:Int)) μ)) (
 cond (decide (a = (10 : Int))) (
 opt (B0 ρ a a (decide (a=(10:Int))) μ) (kB ρ 32 H32 [.block 0,.seq (cA 32 [1,1])])) (
 opt (B0 ρ a a (decide (a=(11:Int))) μ) (kB ρ 32 H32 [.block 0,.seq (cA 32 [1,1])]))):=by kernel_rfl
def NT (x0:List CV):SegD:=⟨H33,[(2,0),(3,0)],cA 33 [1,1],mS [(0,LV.cv (CV.sl x0))] []⟩
def SJ (x0:List CV)(μ:Mu):=(NT x0).seg ρ μ
def Og (x0 x4 x5 x23:List CV)(x24 x25:Int):SegD:=⟨H33,[(0,2),(4,1)],cA 33 [1,1,1,1,0,1,0,0],mS [(0,LV.cv (CV.sl x0)),(4,LV.osl x4),(5,LV.osl x5),(23,LV.cv (CV.sl x23)),(24,LV.int .i64 x24),(25,LV.int .i64 x25)] []⟩
def KG (x0 x4 x5 x23:List CV)(x24 x25:Int)(μ:Mu):=(Og x0 x4 x5 x23 x24 x25).loop ρ μ
def qT (x2 x3:Int)(μ:Mu):St:= .ret (mS [(2,LV.int .i64 x2),(3,LV.int .i64 x3)] []) μ
def IX (x0 x4 x5:List CV)(x6 x8:Int)(x23:List CV)(x24 x25 o0_0 o0_1:Int)(o0_2:List UInt8)(o0_3:List CV):SegD:=⟨H33,[(0,2),(4,1),(5,1),(23,2),(24,0),(25,0)],cA 33 [1,1,1,1,0,1,0,0,1,1,0,0,1,1,1],mS [(0,LV.cv (CV.sl x0)),(4,LV.osl x4),(5,LV.osl x5),(6,LV.int .i64 x6),(7,LV.loc 0 0),(8,LV.int .i64 x8),(23,LV.cv (CV.sl x23)),(24,LV.int .i64 x24),(25,LV.int .i64 x25)] [Ob.cells [LV.int .i64 o0_0,LV.int .i64 o0_1,LV.str o0_2,LV.cv (CV.sl o0_3)]]⟩
def MY (x0 x4 x5:List CV)(x6 x8:Int)(x23:List CV)(x24 x25 o0_0 o0_1:Int)(o0_2:List UInt8)(o0_3:List CV)(μ:Mu):=(IX x0 x4 x5 x6 x8 x23 x24 x25 o0_0 o0_1 o0_2 o0_3).seg ρ μ
def Jt (x0 x4 x5:List CV)(x6 x8:Int)(x23:List CV)(x24 x25:Int)(x50:List CV)(x51 x52 o0_0 o0_1:Int)(o0_2:List UInt8)(o0_3:List CV)(o1_0 o1_1:Int)(o1_2:List UInt8)(o1_3:List CV):SegD:=⟨H33,[(0,2),(4,1),(5,1),(6,0),(8,0),(10,0),(23,2),(24,0),(25,0)],cA 33 [1,1,1,1,0,1,0,0,1,1,0,0,1,1,1,1,0,1,0,0],mS [(0,LV.cv (CV.sl x0)),(4,LV.osl x4),(5,LV.osl x5),(6,LV.int .i64 x6),(7,LV.loc 0 0),(8,LV.int .i64 x8),(10,LV.loc 1 0),(23,LV.cv (CV.sl x23)),(24,LV.int .i64 x24),(25,LV.int .i64 x25),(50,LV.cv (CV.sl x50)),(51,LV.int .i64 x51),(52,LV.int .i64 x52)] [Ob.cells [LV.int .i64 o0_0,LV.int .i64 o0_1,LV.str o0_2,LV.cv (CV.sl o0_3)],Ob.cells [LV.int .i64 o1_0,LV.int .i64 o1_1,LV.str o1_2,LV.osl o1_3]]⟩
def xU (x0 x4 x5:List CV)(x6 x8:Int)(x23:List CV)(x24 x25:Int)(x50:List CV)(x51 x52 o0_0 o0_1:Int)(o0_2:List UInt8)(o0_3:List CV)(o1_0 o1_1:Int)(o1_2:List UInt8)(o1_3:List CV)(μ:Mu):=(Jt x0 x4 x5 x6 x8 x23 x24 x25 x50 x51 x52 o0_0 o0_1 o0_2 o0_3 o1_0 o1_1 o1_2 o1_3).loop ρ μ
def tF (x0 x4 x5:List CV)(x6 x8:Int)(x23:List CV)(x24 x25 o0_0 o0_1:Int)(o0_2:List UInt8)(o0_3:List CV)(μ:Mu):St:= .exit 3 (mS [(0,LV.cv (CV.sl x0)),(4,LV.osl x4),(5,LV.osl x5),(6,LV.int .i64 x6),(8,LV.int .i64 x8),(10,LV.loc 0 0),(23,LV.cv (CV.sl x23)),(24,LV.int .i64 x24),(25,LV.int .i64 x25)] [Ob.cells [LV.int .i64 o0_0,LV.int .i64 o0_1,LV.str o0_2,LV.osl o0_3]]) μ
def s8 (x2 x3:Int)(μ:Mu):St:= .ret (mS [(2,LV.int .i64 x2),(3,LV.int .i64 x3)] []) μ
def IY (x0 x4 x5:List CV)(x8 x10_0 x10_1:Int)(x10_2:List UInt8)(x10_3 x23:List CV)(x24 x25:Int):SegD:=⟨H33,[(0,2),(4,1),(5,1),(23,2),(24,0),(25,0)],cA 33 [1,1,1,1,0,1,0,0,1,1,0,0,1,1,1,1,1,1],mS [(0,LV.cv (CV.sl x0)),(4,LV.osl x4),(5,LV.osl x5),(8,LV.int .i64 x8),(10,LV.cv (CV.view [CV.int .i64 x10_0,CV.int .i64 x10_1,CV.str x10_2,CV.sl x10_3])),(23,LV.cv (CV.sl x23)),(24,LV.int .i64 x24),(25,LV.int .i64 x25)] []⟩
def MZ (x0 x4 x5:List CV)(x8 x10_0 x10_1:Int)(x10_2:List UInt8)(x10_3 x23:List CV)(x24 x25:Int)(μ:Mu):=(IY x0 x4 x5 x8 x10_0 x10_1 x10_2 x10_3 x23 x24 x25).seg ρ μ
def tc (x0 x4 x5 x23:List CV)(x24 x25:Int)(μ:Mu):St:= .norm (mS [(0,LV.cv (CV.sl x0)),(4,LV.osl x4),(5,LV.osl x5),(23,LV.cv (CV.sl x23)),(24,LV.int .i64 x24),(25,LV.int .i64 x25)] []) μ
def ta (x0 x4 x5 x23:List CV)(x24 x25:Int)(μ:Mu):St:= .norm (mS [(0,LV.cv (CV.sl x0)),(4,LV.osl x4),(5,LV.osl x5),(23,LV.cv (CV.sl x23)),(24,LV.int .i64 x24),(25,LV.int .i64 x25)] []) μ
def Nk (pv:CV)(μ:Mu):St:= .panic pv (mS [] []) μ
def QC (pv:CV)(μ:Mu):St:= .panic pv (mS [] []) μ
def wW (x0 x4:List CV)(μ:Mu):St:= .exit 1 (mS [(0,LV.cv (CV.sl x0)),(4,LV.osl x4)] []) μ
def lp (x2 x3:Int)(μ:Mu):St:= .ret (mS [(2,LV.int .i64 x2),(3,LV.int .i64 x3)] []) μ
theorem EA (x0 x4 x5 x6 x8 x23 x24 x25 x50 x51 x52 o0_0 o0_1 o0_2 o0_3 o1_0 o1_1 o1_2 o1_3 μ):(Jt x0 x4 x5 x6 x8 x23 x24 x25 x50 x51 x52 o0_0 o0_1 o0_2 o0_3 o1_0 o1_1 o1_2 o1_3).rK ρ μ=
 cond (decide (x52 < x51)) (
 opt (bm x50 x52) fun c16=>
 opt (aC .i64 (LV.cv c16)) fun n17=>
 cond (decide (n17 = (-1 : Int))) (
 ax (dQ 1 o1_3 [CV.v (.pointer none)]) (
 xU ρ x0 x4 x5 x6 x8 x23 x24 x25 x50 x51 (IntKind.wrap .i64 (x52+(1:Int))) o0_0 o0_1 o0_2 o0_3 o1_0 o1_1 o1_2 (o1_3++[CV.v (.pointer none)]) μ)) (
 opt (bm x5 n17) fun c18=>
 ax (dc c18) (
 ax (dc c18) (
 ax (noB c18 && true) (
 ax (fZ [c18] && dQ 1 o1_3 [c18]) (
 xU ρ x0 x4 x5 x6 x8 x23 x24 x25 x50 x51 (IntKind.wrap .i64 (x52+(1:Int))) o0_0 o0_1 o0_2 o0_3 o1_0 o1_1 o1_2 (o1_3++[c18]) μ)))))) (
 some (tF x0 x4 x5 x6 x8 x23 x24 x25 o1_0 o1_1 o1_2 o1_3 μ)):=by kernel_rfl
theorem RP (x0 x4 x5 x8 x10_0 x10_1 x10_2 x10_3 x23 x24 x25 μ):(IY x0 x4 x5 x8 x10_0 x10_1 x10_2 x10_3 x23 x24 x25).sK ρ μ=
 ax (dQ 1 x4 [CV.int .i64 x8]) (
 ax (dQ 1 x5 [CV.view [CV.int .i64 x10_0, CV.int .i64 x10_1, CV.str x10_2, CV.sl x10_3]]) (
 some (tc x0 (x4++[CV.int .i64 x8]) (x5++[CV.view [CV.int .i64 x10_0,CV.int .i64 x10_1,CV.str x10_2,CV.sl x10_3]]) x23 x24 x25 μ))):=by kernel_rfl
theorem G8 (x0 x4 x5 x23 x24 x25 μ):kS ρ H33 [] [(0,2),(4,1),(5,1),(23,2),(24,0),(25,0)] (tc x0 x4 x5 x23 x24 x25 μ)=
 some (ta x0 x4 x5 x23 x24 x25 μ):=by kernel_rfl
theorem HE (x0 x4 x5 x6 x8 x23 x24 x25 o0_0 o0_1 o0_2 o0_3 μ):kS ρ H33 [.block 3,.seq (cA 33 [1,1,1,1,0,1,0,0,1,1,0,0,1,1,1,1,1])] [(0,2),(4,1),(5,1),(23,2),(24,0),(25,0)] (tF x0 x4 x5 x6 x8 x23 x24 x25 o0_0 o0_1 o0_2 o0_3 μ)=
 callK (ρ.call 68 [LV.cv (CV.view [CV.int .i64 o0_0, CV.int .i64 o0_1, CV.str o0_2, CV.sl o0_3])] μ) (fun v19 μ20 =>
 opt (aC .i64 v19) fun n23=>
 cond (!decide (n23 = (0 : Int))) (
 some (s8 x6 n23 μ20)) (
 opt (MZ ρ x0 x4 x5 x8 o0_0 o0_1 o0_2 o0_3 x23 x24 x25 μ20) (kS ρ H33 [] [(0,2),(4,1),(5,1),(23,2),(24,0),(25,0)]))) (pX Nk):=by kernel_rfl
theorem RO (x0 x4 x5 x6 x8 x23 x24 x25 o0_0 o0_1 o0_2 o0_3 μ):(IX x0 x4 x5 x6 x8 x23 x24 x25 o0_0 o0_1 o0_2 o0_3).sK ρ μ=
 opt (xU ρ x0 x4 x5 x6 x8 x23 x24 x25 o0_3 (List.length o0_3:Int) (0:Int) o0_0 o0_1 o0_2 o0_3 o0_0 o0_1 o0_2 [] μ) (kS ρ H33 [.block 3,.seq (cA 33 [1,1,1,1,0,1,0,0,1,1,0,0,1,1,1,1,1])] [(0,2),(4,1),(5,1),(23,2),(24,0),(25,0)]):=by kernel_rfl
theorem G6 (x2 x3 μ):kR ρ H33 [.block 2,.seq (cA 33 [1,1,1,1,0,1,0,0,1,1,1])] [(0,2),(4,1)] (cA 33 [1,1,1,1,0,1,0,0]) (s8 x2 x3 μ)=
 some (qT x2 x3 μ):=by kernel_rfl
theorem G7 (x0 x4 x5 x23 x24 x25 μ):kR ρ H33 [.block 2,.seq (cA 33 [1,1,1,1,0,1,0,0,1,1,1])] [(0,2),(4,1)] (cA 33 [1,1,1,1,0,1,0,0]) (ta x0 x4 x5 x23 x24 x25 μ)=
 KG ρ x0 x4 x5 x23 x24 (IntKind.wrap .i64 (x25+(1:Int))) μ:=by kernel_rfl
theorem J1 (x0 x4 x5 x23 x24 x25 μ):(Og x0 x4 x5 x23 x24 x25).rK ρ μ=
 cond (decide (x25 < x24)) (
 opt (bm x23 x25) fun c1=>
 eS (LV.cv c1) fun n2 n3 s4 l5=>
 callK (ρ.call 67 [LV.cv (CV.sl x0), LV.int .i64 x25, LV.cv (CV.sl x4)] μ) (fun v6 μ7 =>
 opt (aT v6) fun xs10=>
 opt (aw xs10) fun q11=>
 opt (aC .i64 q11.1) fun n12=>
 opt (aw q11.2) fun q13=>
 opt (aC .i64 q13.1) fun n14=>
 opt (aO q13.2) fun u15=>
 cond (!decide (n14 = (0 : Int))) (
 some (qT x25 n14 μ7)) (
 opt (MY ρ x0 x4 x5 x25 n12 x23 x24 x25 n2 n3 s4 l5 μ7) (kR ρ H33 [.block 2,.seq (cA 33 [1,1,1,1,0,1,0,0,1,1,1])] [(0,2),(4,1)] (cA 33 [1,1,1,1,0,1,0,0])))) (pX QC)) (
 some (wW x0 x4 μ)):=by kernel_rfl
theorem L1 (x2 x3 μ):kS ρ H33 [.block 1,.seq (cA 33 [1,1,1,1,1])] [(2,0),(3,0)] (qT x2 x3 μ)=
 some (lp x2 x3 μ):=by kernel_rfl
theorem L3 (x0 x4 μ):kS ρ H33 [.block 1,.seq (cA 33 [1,1,1,1,1])] [(2,0),(3,0)] (wW x0 x4 μ)=
 opt (bm x0 (IntKind.wrap .i64 ((List.length x0:Int) -(1:Int)))) fun c27=>
 eS (LV.cv c27) fun n28 n29 s30 l31=>
 cond (decide (n28 = (3 : Int))) (
 some (lp (IntKind.wrap .i64 ((List.length x0:Int) -(1:Int))) (21:Int) μ)) (
 opt (bm x4 (IntKind.wrap .i64 ((List.length x0:Int) -(1:Int)))) fun c32=>
 opt (aC .i64 (LV.cv c32)) fun n33=>
 cond (!decide (n33 = (0 : Int))) (
 some (lp (IntKind.wrap .i64 ((List.length x0:Int) -(1:Int))) (21:Int) μ)) (
 some (lp (0:Int) (0:Int) μ))):=by kernel_rfl
theorem Uf (x0 μ):(NT x0).sK ρ μ=
 opt (KG ρ x0 [] [] x0 (List.length x0:Int) (0:Int) μ) (kS ρ H33 [.block 1,.seq (cA 33 [1,1,1,1,1])] [(2,0),(3,0)]):=by kernel_rfl
theorem LE (x2 x3 μ):kB ρ 33 H33 [] (lp x2 x3 μ)=
 some (.ret (LV.ltup [LV.int .i64 x2,LV.int .i64 x3]) μ):=by kernel_rfl
theorem Y7 (a μ):aD E ρ 33 [LV.cv (CV.sl a)] μ=
 cond (decide ((List.length a : Int) = (0 : Int))) (
 some (.ret (LV.ltup [LV.int .i64 (0:Int),LV.int .i64 (17:Int)]) μ)) (
 cond (decide ((120 : Int) < (List.length a : Int))) (
 some (.ret (LV.ltup [LV.int .i64 (0:Int),LV.int .i64 (8:Int)]) μ)) (
 opt (SJ ρ a μ) (kB ρ 33 H33 []))):=by kernel_rfl
def NU (x4:CV):SegD:=⟨H34,[(2,0),(3,0)],cA 34 [1,1,1],mS [(4,LV.cv x4)] []⟩
def SK (x4:CV)(μ:Mu):=(NU x4).seg ρ μ
def wN (x2 x3:Int)(μ:Mu):St:= .ret (mS [(2,LV.int .i64 x2),(3,LV.int .i64 x3)] []) μ
theorem Ug (x4 μ):(NU x4).sK ρ μ=
 callK (ρ.call 69 [] μ) (fun v11 μ12 =>
 opt (cU v11) fun cs15=>
 opt (eU (LV.cv x4)) fun b16=>
 ax (!b16) (
 opt (dq (LV.cv (eM x4))) fun cs17=>
 opt (aw cs17) fun q18=>
 opt (aC .i64 (LV.cv q18.1)) fun n19=>
 opt (aw q18.2) fun q20=>
 opt (aC .i64 (LV.cv q20.1)) fun n21=>
 opt (aw q20.2) fun q22=>
 opt (aN (LV.cv q22.1)) fun s23=>
 opt (aw q22.2) fun q24=>
 opt (bp (LV.cv q24.1)) fun l25=>
 opt (aO q24.2) fun u26=>
 ax (bW n19 25) (
 opt (el E.P 113 cs15 (Int.toNat n19*5)) fun c27=>
 dm (LV.cv c27) fun n28 n29 n30 l31 s32=>
 some (wN n28 (0:Int) μ12)))) pN:=by kernel_rfl
theorem LF (x2 x3 μ):kB ρ 34 H34 [] (wN x2 x3 μ)=
 some (.ret (LV.ltup [LV.int .i64 x2,LV.int .i64 x3]) μ):=by kernel_rfl
theorem Wb (a μ):aD E ρ 34 [LV.cv (CV.sl a)] μ=
 callK (ρ.call 64 [LV.cv (CV.sl a)] μ) (fun v1 μ2 =>
 opt (aT v1) fun xs5=>
 opt (aw xs5) fun q6=>
 opt (bP q6.1) fun c7=>
 opt (aw q6.2) fun q8=>
 opt (aC .i64 q8.1) fun n9=>
 opt (aO q8.2) fun u10=>
 cond (!decide (n9 = (0 : Int))) (
 some (.ret (LV.ltup [LV.int .i64 (0:Int),LV.int .i64 n9]) μ2)) (
 opt (SK ρ c7 μ2) (kB ρ 34 H34 []))) pP:=by kernel_rfl
def NV (x0:List CV):SegD:=⟨H35,[(2,0),(3,0)],cA 35 [1,1],mS [(0,LV.cv (CV.sl x0))] []⟩
def Kq (x0:List CV)(μ:Mu):=(NV x0).seg ρ μ
def nE (x2 x3:Int)(μ:Mu):St:= .ret (mS [(2,LV.int .i64 x2),(3,LV.int .i64 x3)] []) μ
def NW (x0:List CV):SegD:=⟨H35,[(2,0),(3,0)],cA 35 [1,1,1],mS [(0,LV.cv (CV.sl x0))] []⟩
def SL (x0:List CV)(μ:Mu):=(NW x0).seg ρ μ
def Oh (x0:List CV)(x4:Int):SegD:=⟨H35,[(0,2)],cA 35 [1,1,1,0,1,0,0],mS [(0,LV.cv (CV.sl x0)),(4,LV.int .i64 x4)] []⟩
def KH (x0:List CV)(x4:Int)(μ:Mu):=(Oh x0 x4).loop ρ μ
def wX (x2 x3:Int)(μ:Mu):St:= .ret (mS [(2,LV.int .i64 x2),(3,LV.int .i64 x3)] []) μ
def QD (pv:CV)(μ:Mu):St:= .panic pv (mS [] []) μ
def wY (x0:List CV)(μ:Mu):St:= .exit 0 (mS [(0,LV.cv (CV.sl x0))] []) μ
def lq (x2 x3:Int)(μ:Mu):St:= .ret (mS [(2,LV.int .i64 x2),(3,LV.int .i64 x3)] []) μ
def Qw (pv:CV)(μ:Mu):St:= .panic pv (mS [] []) μ
theorem J2 (x0 x4 μ):(Oh x0 x4).rK ρ μ=
 cond (decide (x4 < (List.length x0 : Int))) (
 callK (ρ.call 70 [LV.cv (CV.sl x0), LV.int .i64 x4] μ) (fun v1 μ2 =>
 opt (aC .i64 v1) fun n5=>
 cond (!decide (n5 = (0 : Int))) (
 some (wX x4 n5 μ2)) (
 KH ρ x0 (IntKind.wrap .i64 (x4+(1:Int))) μ2)) (pX QD)) (
 some (wY x0 μ)):=by kernel_rfl
theorem L4 (x2 x3 μ):kS ρ H35 [.block 0,.seq (cA 35 [1,1,1,1])] [(2,0),(3,0)] (wX x2 x3 μ)=
 some (lq x2 x3 μ):=by kernel_rfl
theorem L5 (x0 μ):kS ρ H35 [.block 0,.seq (cA 35 [1,1,1,1])] [(2,0),(3,0)] (wY x0 μ)=
 opt (bm x0 (IntKind.wrap .i64 ((List.length x0:Int) -(1:Int)))) fun c6=>
 eS (LV.cv c6) fun n7 n8 s9 l10=>
 cond (decide (n7 = (3 : Int))) (
 some (lq (IntKind.wrap .i64 ((List.length x0:Int) -(1:Int))) (21:Int) μ)) (
 callK (ρ.call 71 [LV.cv (CV.sl x0), LV.int .i64 (IntKind.wrap .i64 ((List.length x0 : Int) - (1 : Int)))] μ) (fun v11 μ12 =>
 opt (aC .i64 v11) fun n15=>
 cond (!decide (n15 = (List.length x0 : Int))) (
 some (lq (IntKind.wrap .i64 ((List.length x0:Int) -(1:Int))) (21:Int) μ12)) (
 some (lq (0:Int) (0:Int) μ12))) (pX Qw)):=by kernel_rfl
theorem Uh (x0 μ):(NW x0).sK ρ μ=
 opt (KH ρ x0 (0:Int) μ) (kS ρ H35 [.block 0,.seq (cA 35 [1,1,1,1])] [(2,0),(3,0)]):=by kernel_rfl
theorem LG (x2 x3 μ):kS ρ H35 [] [(2,0),(3,0)] (lq x2 x3 μ)=
 some (nE x2 x3 μ):=by kernel_rfl
theorem JV (x0 μ):(NV x0).sK ρ μ=
 cond (decide ((120 : Int) < (List.length x0 : Int))) (
 some (nE (0:Int) (8:Int) μ)) (
 opt (SL ρ x0 μ) (kS ρ H35 [] [(2,0),(3,0)])):=by kernel_rfl
theorem zd (x2 x3 μ):kB ρ 35 H35 [] (nE x2 x3 μ)=
 some (.ret (LV.ltup [LV.int .i64 x2,LV.int .i64 x3]) μ):=by kernel_rfl
theorem Y8 (a μ):aD E ρ 35 [LV.cv (CV.sl a)] μ=
 cond (decide ((List.length a : Int) = (0 : Int))) (
 some (.ret (LV.ltup [LV.int .i64 (0:Int),LV.int .i64 (17:Int)]) μ)) (
 opt (Kq ρ a μ) (kB ρ 35 H35 [])):=by kernel_rfl
theorem Y9 (a μ):aD E ρ 36 [LV.cv (CV.sl a)] μ=
 opt (bm a (IntKind.wrap .i64 ((List.length a:Int) -(1:Int)))) fun c1=>
 eS (LV.cv c1) fun n2 n3 s4 l5=>
 some (.ret (LV.cv (CV.agg [CV.int .i64 n2,CV.int .i64 n3,CV.str s4,CV.sl l5])) μ):=by kernel_rfl
def NX (x0:List UInt8):SegD:=⟨H44,[(2,0)],cA 44 [1,1],mS [(0,LV.str x0)] []⟩
def SM (x0:List UInt8)(μ:Mu):=(NX x0).seg ρ μ
def Oi (x0:List UInt8)(x3:Int):SegD:=⟨H44,[],cA 44 [1,1,0,1,0,0],mS [(0,LV.str x0),(3,LV.int .i64 x3)] []⟩
def B2 (x0:List UInt8)(x3:Int)(μ:Mu):=(Oi x0 x3).loop ρ μ
def wZ (x2:Bool)(μ:Mu):St:= .ret (mS [(2,LV.bool x2)] []) μ
def w6 (μ:Mu):St:= .exit 0 (mS [] []) μ
def qL (x2:Bool)(μ:Mu):St:= .ret (mS [(2,LV.bool x2)] []) μ
theorem J3 (x0 x3 μ):(Oi x0 x3).rK ρ μ=
 cond (decide (x3 < (List.length x0 : Int))) (
 opt (bu x0 x3) fun y6=>
 cond (decide ((97 : Int) ≤ (y6.toNat : Int))) (
 opt (bu x0 x3) fun y7=>
 cond (decide ((y7.toNat : Int) ≤ (122 : Int))) (
 some (wZ false μ)) (
 B2 ρ x0 (IntKind.wrap .i64 (x3+(1:Int))) μ)) (
 B2 ρ x0 (IntKind.wrap .i64 (x3+(1:Int))) μ)) (
 some (w6 μ)):=by kernel_rfl
theorem L6 (x2 μ):kS ρ H44 [.block 0,.seq (cA 44 [1,1,1])] [(2,0)] (wZ x2 μ)=
 some (qL x2 μ):=by kernel_rfl
theorem L7 (μ):kS ρ H44 [.block 0,.seq (cA 44 [1,1,1])] [(2,0)] (w6 μ)=
 some (qL true μ):=by kernel_rfl
theorem Ui (x0 μ):(NX x0).sK ρ μ=
 opt (B2 ρ x0 (0:Int) μ) (kS ρ H44 [.block 0,.seq (cA 44 [1,1,1])] [(2,0)]):=by kernel_rfl
theorem LH (x2 μ):kB ρ 44 H44 [] (qL x2 μ)=
 some (.ret (LV.bool x2) μ):=by kernel_rfl
theorem Za (a μ):aD E ρ 44 [LV.str a] μ=
 callK (ρ.call 81 [LV.str a] μ) (fun v1 μ2 =>
 opt (aM v1) fun b5=>
 cond (!b5) (
 some (.ret (LV.bool false) μ2)) (
 opt (SM ρ a μ2) (kB ρ 44 H44 []))) pP:=by kernel_rfl
theorem Zb (a μ):aD E ρ 51 [LV.str a] μ=
 callK (ρ.call 85 [LV.str a, LV.bool false] μ) (fun v1 μ2 =>
 opt (aT v1) fun xs5=>
 opt (aw xs5) fun q6=>
 opt (bp q6.1) fun l7=>
 opt (aw q6.2) fun q8=>
 opt (aC .i64 q8.1) fun n9=>
 opt (aw q8.2) fun q10=>
 opt (aC .i64 q10.1) fun n11=>
 opt (aO q10.2) fun u12=>
 some (.ret (LV.ltup [LV.cv (CV.sl l7),LV.int .i64 n9,LV.int .i64 n11]) μ2)) pP:=by kernel_rfl
theorem Zc (a μ):aD E ρ 54 [LV.cv (CV.sl a)] μ=
 ax (decide (0 ≤ (List.length a : Int)) && decide ((List.length a : Int) ≤ (1000000000 : Int))) (
 ax (cS 1 a && (Nat.ble (List.length a) (Int.toNat (List.length a : Int)) && Nat.ble (0 + List.length a * 1) (List.length (gv (Int.toNat (List.length a : Int)) [CV.int .i64 (0 : Int)])))) (
 ax (de (bo (gv (Int.toNat (List.length a : Int)) [CV.int .i64 (0 : Int)]) 0 (List.flatMap CV.cells a)) && Nat.ble ((Int.toNat (List.length a : Int)) * 1) (List.length (bo (gv (Int.toNat (List.length a : Int)) [CV.int .i64 (0 : Int)]) 0 (List.flatMap CV.cells a)))) (
 some (.ret (LV.cv (CV.sl (gI false 1 (Int.toNat (List.length a:Int)) (bo (gv (Int.toNat (List.length a:Int)) [CV.int .i64 (0:Int)]) 0 (List.flatMap CV.cells a))))) μ)))):=by kernel_rfl
def NY (x12:Bool)(o0_0 o0_1:Int)(o0_2:List UInt8):SegD:=⟨H55,[],cA 55 [1,0,1,0,1,1,1],mS [(1,LV.loc 0 0),(12,LV.bool x12)] [Ob.cells [LV.int .i64 o0_0,LV.int .i64 o0_1,LV.str o0_2]]⟩
def xO (x12:Bool)(o0_0 o0_1:Int)(o0_2:List UInt8)(μ:Mu):=(NY x12 o0_0 o0_1 o0_2).seg ρ μ
def qM (x2:Int)(μ:Mu):St:= .ret (mS [(2,LV.int .i64 x2)] []) μ
def NZ (o0_0 o0_1:Int)(o0_2:List UInt8):SegD:=⟨H55,[],cA 55 [1,0,1,0,1,1,1,0,1],mS [(1,LV.loc 0 0)] [Ob.cells [LV.int .i64 o0_0,LV.int .i64 o0_1,LV.str o0_2]]⟩
def SN (o0_0 o0_1:Int)(o0_2:List UInt8)(μ:Mu):=(NZ o0_0 o0_1 o0_2).seg ρ μ
def qN (x2:Int)(μ:Mu):St:= .ret (mS [(2,LV.int .i64 x2)] []) μ
def IZ (o0_0 o0_1:Int)(o0_2:List UInt8):SegD:=⟨H55,[],cA 55 [1,0,1,0,1,1,1,0,1,1],mS [(1,LV.loc 0 0)] [Ob.cells [LV.int .i64 o0_0,LV.int .i64 o0_1,LV.str o0_2]]⟩
def Cz (o0_0 o0_1:Int)(o0_2:List UInt8)(μ:Mu):=(IZ o0_0 o0_1 o0_2).seg ρ μ
def j0 (x2:Int)(μ:Mu):St:= .ret (mS [(2,LV.int .i64 x2)] []) μ
def Qx (pv:CV)(μ:Mu):St:= .panic pv (mS [] []) μ
def wO (μ:Mu):St:= .norm (mS [] []) μ
theorem RQ (o0_0 o0_1 o0_2 μ):(IZ o0_0 o0_1 o0_2).sK ρ μ=
 cond (decide (o0_0 = (2 : Int))) (
 callK (ρ.call 92 [] μ) (fun v11 μ12 =>
 opt (bp v11) fun l15=>
 callK (ρ.call 82 [LV.cv (CV.sl l15), LV.str o0_2] μ12) (fun v16 μ17 =>
 opt (aM v16) fun b20=>
 cond (!b20) (
 callK (ρ.call 93 [] μ17) (fun v21 μ22 =>
 opt (bp v21) fun l25=>
 callK (ρ.call 82 [LV.cv (CV.sl l25), LV.str o0_2] μ22) (fun v26 μ27 =>
 opt (aM v26) fun b30=>
 cond (!b30) (
 some (j0 (7:Int) μ27)) (
 some (j0 (0:Int) μ27))) pN) pN) (
 some (j0 (0:Int) μ17))) pN) pN) (
 some (j0 (0:Int) μ)):=by kernel_rfl
theorem G9 (x2 μ):kS ρ H55 [] [] (j0 x2 μ)=
 some (qN x2 μ):=by kernel_rfl
theorem Uj (o0_0 o0_1 o0_2 μ):(NZ o0_0 o0_1 o0_2).sK ρ μ=
 cond (decide (o0_0 = (0 : Int))) (
 callK (ρ.call 91 [LV.str o0_2] μ) (fun v6 μ7 =>
 opt (aM v6) fun b10=>
 cond (!b10) (
 some (qN (4:Int) μ7)) (
 opt (Cz ρ o0_0 o0_1 o0_2 μ7) (kS ρ H55 [] []))) (pX Qx)) (
 opt (Cz ρ o0_0 o0_1 o0_2 μ) (kS ρ H55 [] [])):=by kernel_rfl
theorem LK (x2 μ):kS ρ H55 [] [] (qN x2 μ)=
 some (qM x2 μ):=by kernel_rfl
theorem JW (x12 o0_0 o0_1 o0_2 μ):(NY x12 o0_0 o0_1 o0_2).sK ρ μ=
 cond (x12) (
 cond (!decide (o0_1 = (0 : Int))) (
 some (qM (3:Int) μ)) (
 opt (SN ρ o0_0 o0_1 o0_2 μ) (kS ρ H55 [] []))) (
 some (wO μ)):=by kernel_rfl
theorem LI (x2 μ):kB ρ 55 H55 [.block 0,.seq (cA 55 [1,1])] (qM x2 μ)=
 some (.ret (LV.int .i64 x2) μ):=by kernel_rfl
theorem LJ (μ):kB ρ 55 H55 [.block 0,.seq (cA 55 [1,1])] (wO μ)=
 some (.ret (LV.int .i64 (15:Int)) μ):=by kernel_rfl
theorem Zd (a_0 a_1 a_2 μ):aD E ρ 55 [LV.cv (CV.agg [CV.int .i64 a_0,CV.int .i64 a_1,CV.str a_2])] μ=
 cond (decide (a_0 = (1 : Int))) (
 callK (ρ.call 90 [LV.int .i64 a_1, LV.str a_2] μ) (fun v1 μ2 =>
 opt (aC .i64 v1) fun n5=>
 some (.ret (LV.int .i64 n5) μ2)) pP) (
 cond (decide (a_0 = (0 : Int))) (
 opt (xO ρ (decide (a_0=(0:Int))) a_0 a_1 a_2 μ) (kB ρ 55 H55 [.block 0,.seq (cA 55 [1,1])])) (
 opt (xO ρ (decide (a_0=(2:Int))) a_0 a_1 a_2 μ) (kB ρ 55 H55 [.block 0,.seq (cA 55 [1,1])]))):=by kernel_rfl
theorem Ze (a μ):aD E ρ 62 [LV.str a] μ=
 cond (decide ((1320 : Int) < (List.length a : Int))) (
 some (.ret (LV.int .i64 (8:Int)) μ)) (
 callK (ρ.call 104 [LV.str a, LV.int .i64 (1320 : Int)] μ) (fun v1 μ2 =>
 opt (aM v1) fun b5=>
 cond (!b5) (
 some (.ret (LV.int .i64 (3:Int)) μ2)) (
 some (.ret (LV.int .i64 (0:Int)) μ2))) pP):=by kernel_rfl
def Oj (x0:List UInt8)(x1 x6 o0_0 o0_1:Int)(o0_2:List UInt8)(o0_3 o0_4:Int):SegD:=⟨H63,[(0,0),(1,0),(4,0),(6,0)],cA 63 [1,1,0,0,1,0,1,0,0,0],mS [(0,LV.str x0),(1,LV.int .i64 x1),(4,LV.loc 0 0),(6,LV.int .i64 x6)] [Ob.cells [LV.int .i64 o0_0,LV.int .i64 o0_1,LV.str o0_2,LV.int .i64 o0_3,LV.int .i64 o0_4]]⟩
def vh (x0:List UInt8)(x1 x6 o0_0 o0_1:Int)(o0_2:List UInt8)(o0_3 o0_4:Int)(μ:Mu):=(Oj x0 x1 x6 o0_0 o0_1 o0_2 o0_3 o0_4).loop ρ μ
def nI (x0:List UInt8)(x1 x6 o0_0 o0_1:Int)(o0_2:List UInt8)(o0_3 o0_4:Int)(μ:Mu):St:= .exit 1 (mS [(0,LV.str x0),(1,LV.int .i64 x1),(4,LV.loc 0 0),(6,LV.int .i64 x6)] [Ob.cells [LV.int .i64 o0_0,LV.int .i64 o0_1,LV.str o0_2,LV.int .i64 o0_3,LV.int .i64 o0_4]]) μ
def CZ (pv:CV)(μ:Mu):St:= .panic pv (mS [] []) μ
def N1 (x0:List UInt8)(x1 x6 o0_0 o0_1:Int)(o0_2:List UInt8)(o0_3 o0_4:Int):SegD:=⟨H63,[(0,0),(1,0),(4,0)],cA 63 [1,1,0,0,1,0,1,1,1],mS [(0,LV.str x0),(1,LV.int .i64 x1),(4,LV.loc 0 0),(6,LV.int .i64 x6)] [Ob.cells [LV.int .i64 o0_0,LV.int .i64 o0_1,LV.str o0_2,LV.int .i64 o0_3,LV.int .i64 o0_4]]⟩
def SO (x0:List UInt8)(x1 x6 o0_0 o0_1:Int)(o0_2:List UInt8)(o0_3 o0_4:Int)(μ:Mu):=(N1 x0 x1 x6 o0_0 o0_1 o0_2 o0_3 o0_4).seg ρ μ
def wP (o0_0 o0_1:Int)(o0_2:List UInt8)(o0_3 o0_4:Int)(μ:Mu):St:= .ret (mS [(4,LV.loc 0 0)] [Ob.cells [LV.int .i64 o0_0,LV.int .i64 o0_1,LV.str o0_2,LV.int .i64 o0_3,LV.int .i64 o0_4]]) μ
def Qy (pv:CV)(μ:Mu):St:= .panic pv (mS [] []) μ
def I3 (x0:List UInt8)(x1 x5:Int)(x60:Bool)(o0_0 o0_1:Int)(o0_2:List UInt8)(o0_3 o0_4:Int):SegD:=⟨H63,[(0,0),(1,0),(4,0)],cA 63 [1,1,0,0,1,1,1],mS [(0,LV.str x0),(1,LV.int .i64 x1),(4,LV.loc 0 0),(5,LV.int .u8 x5),(60,LV.bool x60)] [Ob.cells [LV.int .i64 o0_0,LV.int .i64 o0_1,LV.str o0_2,LV.int .i64 o0_3,LV.int .i64 o0_4]]⟩
def pG (x0:List UInt8)(x1 x5:Int)(x60:Bool)(o0_0 o0_1:Int)(o0_2:List UInt8)(o0_3 o0_4:Int)(μ:Mu):=(I3 x0 x1 x5 x60 o0_0 o0_1 o0_2 o0_3 o0_4).seg ρ μ
def dD (o0_0 o0_1:Int)(o0_2:List UInt8)(o0_3 o0_4:Int)(μ:Mu):St:= .ret (mS [(4,LV.loc 0 0)] [Ob.cells [LV.int .i64 o0_0,LV.int .i64 o0_1,LV.str o0_2,LV.int .i64 o0_3,LV.int .i64 o0_4]]) μ
def oE (pv:CV)(μ:Mu):St:= .panic pv (mS [] []) μ
def Ju (x0:List UInt8)(x1:Int)(x85:List CV)(x86 x87 o0_0 o0_1:Int)(o0_2:List UInt8)(o0_3 o0_4:Int):SegD:=⟨H63,[(0,0),(1,0),(4,0)],cA 63 [1,1,0,0,1,1,1,1,1,0,0,1,0,0],mS [(0,LV.str x0),(1,LV.int .i64 x1),(4,LV.loc 0 0),(85,LV.cv (CV.sl x85)),(86,LV.int .i64 x86),(87,LV.int .i64 x87)] [Ob.cells [LV.int .i64 o0_0,LV.int .i64 o0_1,LV.str o0_2,LV.int .i64 o0_3,LV.int .i64 o0_4]]⟩
def CQ (x0:List UInt8)(x1:Int)(x85:List CV)(x86 x87 o0_0 o0_1:Int)(o0_2:List UInt8)(o0_3 o0_4:Int)(μ:Mu):=(Ju x0 x1 x85 x86 x87 o0_0 o0_1 o0_2 o0_3 o0_4).loop ρ μ
def tG (o0_0 o0_1:Int)(o0_2:List UInt8)(o0_3 o0_4:Int)(μ:Mu):St:= .ret (mS [(4,LV.loc 0 0)] [Ob.cells [LV.int .i64 o0_0,LV.int .i64 o0_1,LV.str o0_2,LV.int .i64 o0_3,LV.int .i64 o0_4]]) μ
def Nr (pv:CV)(μ:Mu):St:= .panic pv (mS [] []) μ
def tH (x0:List UInt8)(x1 o0_0 o0_1:Int)(o0_2:List UInt8)(o0_3 o0_4:Int)(μ:Mu):St:= .exit 3 (mS [(0,LV.str x0),(1,LV.int .i64 x1),(4,LV.loc 0 0)] [Ob.cells [LV.int .i64 o0_0,LV.int .i64 o0_1,LV.str o0_2,LV.int .i64 o0_3,LV.int .i64 o0_4]]) μ
def Jv (x0:List UInt8)(x1:Int)(x103:List CV)(x104 x105 o0_0 o0_1:Int)(o0_2:List UInt8)(o0_3 o0_4:Int):SegD:=⟨H63,[(4,0)],cA 63 [1,1,0,0,1,1,1,1,1,0,1,0,1,0,0],mS [(0,LV.str x0),(1,LV.int .i64 x1),(4,LV.loc 0 0),(103,LV.cv (CV.sl x103)),(104,LV.int .i64 x104),(105,LV.int .i64 x105)] [Ob.cells [LV.int .i64 o0_0,LV.int .i64 o0_1,LV.str o0_2,LV.int .i64 o0_3,LV.int .i64 o0_4]]⟩
def CR (x0:List UInt8)(x1:Int)(x103:List CV)(x104 x105 o0_0 o0_1:Int)(o0_2:List UInt8)(o0_3 o0_4:Int)(μ:Mu):=(Jv x0 x1 x103 x104 x105 o0_0 o0_1 o0_2 o0_3 o0_4).loop ρ μ
def tI (o0_0 o0_1:Int)(o0_2:List UInt8)(o0_3 o0_4:Int)(μ:Mu):St:= .ret (mS [(4,LV.loc 0 0)] [Ob.cells [LV.int .i64 o0_0,LV.int .i64 o0_1,LV.str o0_2,LV.int .i64 o0_3,LV.int .i64 o0_4]]) μ
def Ns (pv:CV)(μ:Mu):St:= .panic pv (mS [] []) μ
def tJ (o0_0 o0_1:Int)(o0_2:List UInt8)(o0_3 o0_4:Int)(μ:Mu):St:= .exit 5 (mS [(4,LV.loc 0 0)] [Ob.cells [LV.int .i64 o0_0,LV.int .i64 o0_1,LV.str o0_2,LV.int .i64 o0_3,LV.int .i64 o0_4]]) μ
def td (x0:List UInt8)(x1 o0_0 o0_1:Int)(o0_2:List UInt8)(o0_3 o0_4:Int)(μ:Mu):St:= .norm (mS [(0,LV.str x0),(1,LV.int .i64 x1),(4,LV.loc 0 0)] [Ob.cells [LV.int .i64 o0_0,LV.int .i64 o0_1,LV.str o0_2,LV.int .i64 o0_3,LV.int .i64 o0_4]]) μ
def I4 (x0:List UInt8)(x1 o0_0 o0_1:Int)(o0_2:List UInt8)(o0_3 o0_4:Int):SegD:=⟨H63,[(4,0)],cA 63 [1,1,1],mS [(0,LV.str x0),(1,LV.int .i64 x1),(4,LV.loc 0 0)] [Ob.cells [LV.int .i64 o0_0,LV.int .i64 o0_1,LV.str o0_2,LV.int .i64 o0_3,LV.int .i64 o0_4]]⟩
def M0 (x0:List UInt8)(x1 o0_0 o0_1:Int)(o0_2:List UInt8)(o0_3 o0_4:Int)(μ:Mu):=(I4 x0 x1 o0_0 o0_1 o0_2 o0_3 o0_4).seg ρ μ
def Jw (x0:List UInt8)(x1:Int)(x133:List CV)(x134 x135 o0_0 o0_1:Int)(o0_2:List UInt8)(o0_3 o0_4 o1_0 o1_1:Int)(o1_2:List UInt8)(o1_3 o1_4:Int):SegD:=⟨H63,[(0,0),(1,0),(4,0),(11,0)],cA 63 [1,1,1,1,0,1,0,0],mS [(0,LV.str x0),(1,LV.int .i64 x1),(4,LV.loc 0 0),(11,LV.loc 1 0),(133,LV.cv (CV.sl x133)),(134,LV.int .i64 x134),(135,LV.int .i64 x135)] [Ob.cells [LV.int .i64 o0_0,LV.int .i64 o0_1,LV.str o0_2,LV.int .i64 o0_3,LV.int .i64 o0_4],Ob.cells [LV.int .i64 o1_0,LV.int .i64 o1_1,LV.str o1_2,LV.int .i64 o1_3,LV.int .i64 o1_4]]⟩
def sy (x0:List UInt8)(x1:Int)(x133:List CV)(x134 x135 o0_0 o0_1:Int)(o0_2:List UInt8)(o0_3 o0_4 o1_0 o1_1:Int)(o1_2:List UInt8)(o1_3 o1_4:Int)(μ:Mu):=(Jw x0 x1 x133 x134 x135 o0_0 o0_1 o0_2 o0_3 o0_4 o1_0 o1_1 o1_2 o1_3 o1_4).loop ρ μ
def Nt (pv:CV)(μ:Mu):St:= .panic pv (mS [] []) μ
def tK (x0:List UInt8)(x1 o0_0 o0_1:Int)(o0_2:List UInt8)(o0_3 o0_4 o1_0 o1_1:Int)(o1_2:List UInt8)(o1_3 o1_4:Int)(μ:Mu):St:= .exit 7 (mS [(0,LV.str x0),(1,LV.int .i64 x1),(4,LV.loc 0 0),(11,LV.loc 1 0)] [Ob.cells [LV.int .i64 o0_0,LV.int .i64 o0_1,LV.str o0_2,LV.int .i64 o0_3,LV.int .i64 o0_4],Ob.cells [LV.int .i64 o1_0,LV.int .i64 o1_1,LV.str o1_2,LV.int .i64 o1_3,LV.int .i64 o1_4]]) μ
def AR (pv:CV)(μ:Mu):St:= .panic pv (mS [] []) μ
def Jy (x0:List UInt8)(x1:Int)(x164:List CV)(x165 x166 o0_0 o0_1:Int)(o0_2:List UInt8)(o0_3 o0_4 o1_0 o1_1:Int)(o1_2:List UInt8)(o1_3 o1_4:Int):SegD:=⟨H63,[(4,0),(11,0)],cA 63 [1,1,1,1,1,0,1,0,0],mS [(0,LV.str x0),(1,LV.int .i64 x1),(4,LV.loc 0 0),(11,LV.loc 1 0),(164,LV.cv (CV.sl x164)),(165,LV.int .i64 x165),(166,LV.int .i64 x166)] [Ob.cells [LV.int .i64 o0_0,LV.int .i64 o0_1,LV.str o0_2,LV.int .i64 o0_3,LV.int .i64 o0_4],Ob.cells [LV.int .i64 o1_0,LV.int .i64 o1_1,LV.str o1_2,LV.int .i64 o1_3,LV.int .i64 o1_4]]⟩
def pK (x0:List UInt8)(x1:Int)(x164:List CV)(x165 x166 o0_0 o0_1:Int)(o0_2:List UInt8)(o0_3 o0_4 o1_0 o1_1:Int)(o1_2:List UInt8)(o1_3 o1_4:Int)(μ:Mu):=(Jy x0 x1 x164 x165 x166 o0_0 o0_1 o0_2 o0_3 o0_4 o1_0 o1_1 o1_2 o1_3 o1_4).loop ρ μ
def Nu (pv:CV)(μ:Mu):St:= .panic pv (mS [] []) μ
def mn (o0_0 o0_1:Int)(o0_2:List UInt8)(o0_3 o0_4 o1_0 o1_1:Int)(o1_2:List UInt8)(o1_3 o1_4:Int)(μ:Mu):St:= .exit 9 (mS [(4,LV.loc 0 0),(11,LV.loc 1 0)] [Ob.cells [LV.int .i64 o0_0,LV.int .i64 o0_1,LV.str o0_2,LV.int .i64 o0_3,LV.int .i64 o0_4],Ob.cells [LV.int .i64 o1_0,LV.int .i64 o1_1,LV.str o1_2,LV.int .i64 o1_3,LV.int .i64 o1_4]]) μ
def oF (o0_0 o0_1:Int)(o0_2:List UInt8)(o0_3 o0_4:Int)(μ:Mu):St:= .ret (mS [(4,LV.loc 0 0)] [Ob.cells [LV.int .i64 o0_0,LV.int .i64 o0_1,LV.str o0_2,LV.int .i64 o0_3,LV.int .i64 o0_4]]) μ
theorem J4 (x0 x1 x6 o0_0 o0_1 o0_2 o0_3 o0_4 μ):(Oj x0 x1 x6 o0_0 o0_1 o0_2 o0_3 o0_4).rK ρ μ=
 cond (decide (x6 < (List.length x0 : Int))) (
 opt (bu x0 x6) fun y7=>
 callK (ρ.call 105 [LV.int .u8 (y7.toNat : Int)] μ) (fun v8 μ9 =>
 opt (aM v8) fun b12=>
 cond (b12) (
 vh ρ x0 x1 (IntKind.wrap .i64 (x6+(1:Int))) o0_0 o0_1 o0_2 o0_3 o0_4 μ9) (
 opt (bu x0 x6) fun y13=>
 callK (ρ.call 106 [LV.int .u8 (y13.toNat : Int)] μ9) (fun v14 μ15 =>
 opt (aM v14) fun b18=>
 cond (b18) (
 vh ρ x0 x1 (IntKind.wrap .i64 (x6+(1:Int))) o0_0 o0_1 o0_2 o0_3 o0_4 μ15) (
 opt (bu x0 x6) fun y19=>
 cond (decide ((y19.toNat : Int) = (95 : Int))) (
 vh ρ x0 x1 (IntKind.wrap .i64 (x6+(1:Int))) o0_0 o0_1 o0_2 o0_3 o0_4 μ15) (
 some (nI x0 x1 x6 o0_0 o0_1 o0_2 o0_3 o0_4 μ15)))) (pX CZ))) (pX CZ)) (
 some (nI x0 x1 x6 o0_0 o0_1 o0_2 o0_3 o0_4 μ)):=by kernel_rfl
theorem Uk (x0 x1 x6 o0_0 o0_1 o0_2 o0_3 o0_4 μ):(N1 x0 x1 x6 o0_0 o0_1 o0_2 o0_3 o0_4).sK ρ μ=
 opt (dB x0 x1 x6) fun s20=>
 callK (ρ.call 107 [LV.str s20] μ) (fun v21 μ22 =>
 opt (aN v21) fun s25=>
 some (wP (0:Int) (0:Int) s25 x6 (0:Int) μ22)) (pX Qy):=by kernel_rfl
theorem LL (o0_0 o0_1 o0_2 o0_3 o0_4 μ):kB ρ 63 H63 [.block 0,.seq (cA 63 [1,1,1])] (wP o0_0 o0_1 o0_2 o0_3 o0_4 μ)=
 some (.ret (LV.cv (CV.agg [CV.int .i64 o0_0,CV.int .i64 o0_1,CV.str o0_2,CV.int .i64 o0_3,CV.int .i64 o0_4])) μ):=by kernel_rfl
theorem L8 (x0 x1 x6 o0_0 o0_1 o0_2 o0_3 o0_4 μ):kB ρ 63 H63 [.block 1,.seq (cA 63 [1,1,0,0,1,0,1,1]),.block 0,.seq (cA 63 [1,1,1])] (nI x0 x1 x6 o0_0 o0_1 o0_2 o0_3 o0_4 μ)=
 cond (decide ((31 : Int) < IntKind.wrap .i64 (x6 - x1))) (
 some (.ret (LV.cv (CV.agg [CV.int .i64 (0:Int),CV.int .i64 (0:Int),CV.str ([]:List UInt8),CV.int .i64 (0:Int),CV.int .i64 (4:Int)])) μ)) (
 opt (SO ρ x0 x1 x6 o0_0 o0_1 o0_2 o0_3 o0_4 μ) (kB ρ 63 H63 [.block 0,.seq (cA 63 [1,1,1])])):=by kernel_rfl
theorem EB (x0 x1 x85 x86 x87 o0_0 o0_1 o0_2 o0_3 o0_4 μ):(Ju x0 x1 x85 x86 x87 o0_0 o0_1 o0_2 o0_3 o0_4).rK ρ μ=
 cond (decide (x87 < x86)) (
 opt (bm x85 x87) fun c47=>
 opt (aN (LV.cv c47)) fun s48=>
 callK (ρ.call 110 [LV.str x0, LV.int .i64 x1, LV.str s48] μ) (fun v49 μ50 =>
 opt (aM v49) fun b53=>
 cond (b53) (
 some (tG (2:Int) (0:Int) s48 (IntKind.wrap .i64 (x1+(List.length s48:Int))) (0:Int) μ50)) (
 CQ ρ x0 x1 x85 x86 (IntKind.wrap .i64 (x87+(1:Int))) o0_0 o0_1 o0_2 o0_3 o0_4 μ50)) (pX Nr)) (
 some (tH x0 x1 o0_0 o0_1 o0_2 o0_3 o0_4 μ)):=by kernel_rfl
theorem HF (o0_0 o0_1 o0_2 o0_3 o0_4 μ):kS ρ H63 [.block 3,.seq (cA 63 [1,1,0,0,1,1,1,1,1,0,1])] [(0,0),(1,0),(4,0)] (tG o0_0 o0_1 o0_2 o0_3 o0_4 μ)=
 some (dD o0_0 o0_1 o0_2 o0_3 o0_4 μ):=by kernel_rfl
theorem EC (x0 x1 x103 x104 x105 o0_0 o0_1 o0_2 o0_3 o0_4 μ):(Jv x0 x1 x103 x104 x105 o0_0 o0_1 o0_2 o0_3 o0_4).rK ρ μ=
 cond (decide (x105 < x104)) (
 opt (bm x103 x105) fun c54=>
 opt (aN (LV.cv c54)) fun s55=>
 callK (ρ.call 110 [LV.str x0, LV.int .i64 x1, LV.str s55] μ) (fun v56 μ57 =>
 opt (aM v56) fun b60=>
 cond (b60) (
 some (tI (1:Int) (5:Int) s55 (IntKind.wrap .i64 (x1+(List.length s55:Int))) (0:Int) μ57)) (
 CR ρ x0 x1 x103 x104 (IntKind.wrap .i64 (x105+(1:Int))) o0_0 o0_1 o0_2 o0_3 o0_4 μ57)) (pX Ns)) (
 some (tJ o0_0 o0_1 o0_2 o0_3 o0_4 μ)):=by kernel_rfl
theorem HH (o0_0 o0_1 o0_2 o0_3 o0_4 μ):kS ρ H63 [.block 5,.seq (cA 63 [1,1,0,0,1,1,1,1,1,0,1,1])] [(0,0),(1,0),(4,0)] (tI o0_0 o0_1 o0_2 o0_3 o0_4 μ)=
 some (dD o0_0 o0_1 o0_2 o0_3 o0_4 μ):=by kernel_rfl
theorem HI (o0_0 o0_1 o0_2 o0_3 o0_4 μ):kS ρ H63 [.block 5,.seq (cA 63 [1,1,0,0,1,1,1,1,1,0,1,1])] [(0,0),(1,0),(4,0)] (tJ o0_0 o0_1 o0_2 o0_3 o0_4 μ)=
 some (dD (0:Int) (0:Int) ([]:List UInt8) (0:Int) (7:Int) μ):=by kernel_rfl
theorem HG (x0 x1 o0_0 o0_1 o0_2 o0_3 o0_4 μ):kS ρ H63 [.block 3,.seq (cA 63 [1,1,0,0,1,1,1,1,1,0,1])] [(0,0),(1,0),(4,0)] (tH x0 x1 o0_0 o0_1 o0_2 o0_3 o0_4 μ)=
 opt (CR ρ x0 x1 [CV.str ([46,84,82,85,69,46]:List UInt8),CV.str ([46,70,65,76,83,69,46]:List UInt8)] (2:Int) (0:Int) o0_0 o0_1 o0_2 o0_3 o0_4 μ) (kS ρ H63 [.block 5,.seq (cA 63 [1,1,0,0,1,1,1,1,1,0,1,1])] [(0,0),(1,0),(4,0)]):=by kernel_rfl
theorem RR (x0 x1 x5 x60 o0_0 o0_1 o0_2 o0_3 o0_4 μ):(I3 x0 x1 x5 x60 o0_0 o0_1 o0_2 o0_3 o0_4).sK ρ μ=
 cond (x60) (
 callK (ρ.call 108 [LV.str x0, LV.int .i64 x1] μ) (fun v33 μ34 =>
 zp v33 fun n37 n38 s39 n40 n41=>
 some (dD n37 n38 s39 n40 n41 μ34)) (pX oE)) (
 cond (decide (x5 = (46 : Int))) (
 callK (ρ.call 109 [] μ) (fun v42 μ43 =>
 opt (bp v42) fun l46=>
 opt (CQ ρ x0 x1 l46 (List.length l46:Int) (0:Int) o0_0 o0_1 o0_2 o0_3 o0_4 μ43) (kS ρ H63 [.block 3,.seq (cA 63 [1,1,0,0,1,1,1,1,1,0,1])] [(0,0),(1,0),(4,0)])) (pX oE)) (
 cond (decide (x5 = (39 : Int))) (
 callK (ρ.call 111 [LV.str x0, LV.int .i64 x1] μ) (fun v63 μ64 =>
 zp v63 fun n67 n68 s69 n70 n71=>
 some (dD n67 n68 s69 n70 n71 μ64)) (pX oE)) (
 cond (decide (x5 = (34 : Int))) (
 callK (ρ.call 111 [LV.str x0, LV.int .i64 x1] μ) (fun v72 μ73 =>
 zp v72 fun n76 n77 s78 n79 n80=>
 some (dD n76 n77 s78 n79 n80 μ73)) (pX oE)) (
 some (td x0 x1 o0_0 o0_1 o0_2 o0_3 o0_4 μ))))):=by kernel_rfl
theorem wg (o0_0 o0_1 o0_2 o0_3 o0_4 μ):kB ρ 63 H63 [.block 0,.seq (cA 63 [1,1,1])] (dD o0_0 o0_1 o0_2 o0_3 o0_4 μ)=
 some (.ret (LV.cv (CV.agg [CV.int .i64 o0_0,CV.int .i64 o0_1,CV.str o0_2,CV.int .i64 o0_3,CV.int .i64 o0_4])) μ):=by kernel_rfl
theorem rH (x0 x1 x133 x134 x135 o0_0 o0_1 o0_2 o0_3 o0_4 o1_0 o1_1 o1_2 o1_3 o1_4 μ):(Jw x0 x1 x133 x134 x135 o0_0 o0_1 o0_2 o0_3 o0_4 o1_0 o1_1 o1_2 o1_3 o1_4).rK ρ μ=
 cond (decide (x135 < x134)) (
 opt (bm x133 x135) fun c86=>
 Tf (LV.cv c86) fun s87 s88=>
 callK (ρ.call 110 [LV.str x0, LV.int .i64 x1, LV.str s87] μ) (fun v89 μ90 =>
 opt (aM v89) fun b93=>
 cond (b93) (
 cond (decide (o1_3 < IntKind.wrap .i64 (x1 + (List.length s87 : Int)))) (
 sy ρ x0 x1 x133 x134 (IntKind.wrap .i64 (x135+(1:Int))) o0_0 o0_1 o0_2 o0_3 o0_4 (2:Int) (0:Int) s88 (IntKind.wrap .i64 (x1+(List.length s87:Int))) (0:Int) μ90) (
 sy ρ x0 x1 x133 x134 (IntKind.wrap .i64 (x135+(1:Int))) o0_0 o0_1 o0_2 o0_3 o0_4 o1_0 o1_1 o1_2 o1_3 o1_4 μ90)) (
 sy ρ x0 x1 x133 x134 (IntKind.wrap .i64 (x135+(1:Int))) o0_0 o0_1 o0_2 o0_3 o0_4 o1_0 o1_1 o1_2 o1_3 o1_4 μ90)) (pX Nt)) (
 some (tK x0 x1 o0_0 o0_1 o0_2 o0_3 o0_4 o1_0 o1_1 o1_2 o1_3 o1_4 μ)):=by kernel_rfl
theorem rI (x0 x1 x164 x165 x166 o0_0 o0_1 o0_2 o0_3 o0_4 o1_0 o1_1 o1_2 o1_3 o1_4 μ):(Jy x0 x1 x164 x165 x166 o0_0 o0_1 o0_2 o0_3 o0_4 o1_0 o1_1 o1_2 o1_3 o1_4).rK ρ μ=
 cond (decide (x166 < x165)) (
 opt (bm x164 x166) fun c99=>
 opt (aN (LV.cv c99)) fun s100=>
 callK (ρ.call 110 [LV.str x0, LV.int .i64 x1, LV.str s100] μ) (fun v101 μ102 =>
 opt (aM v101) fun b105=>
 cond (b105) (
 cond (decide (o1_3 < IntKind.wrap .i64 (x1 + (List.length s100 : Int)))) (
 pK ρ x0 x1 x164 x165 (IntKind.wrap .i64 (x166+(1:Int))) o0_0 o0_1 o0_2 o0_3 o0_4 (2:Int) (0:Int) s100 (IntKind.wrap .i64 (x1+(List.length s100:Int))) (0:Int) μ102) (
 pK ρ x0 x1 x164 x165 (IntKind.wrap .i64 (x166+(1:Int))) o0_0 o0_1 o0_2 o0_3 o0_4 o1_0 o1_1 o1_2 o1_3 o1_4 μ102)) (
 pK ρ x0 x1 x164 x165 (IntKind.wrap .i64 (x166+(1:Int))) o0_0 o0_1 o0_2 o0_3 o0_4 o1_0 o1_1 o1_2 o1_3 o1_4 μ102)) (pX Nu)) (
 some (mn o0_0 o0_1 o0_2 o0_3 o0_4 o1_0 o1_1 o1_2 o1_3 o1_4 μ)):=by kernel_rfl
theorem wk (o0_0 o0_1 o0_2 o0_3 o0_4 o1_0 o1_1 o1_2 o1_3 o1_4 μ):kS ρ H63 [.block 9,.seq (cA 63 [1,1,1,1,1,1])] [(4,0)] (mn o0_0 o0_1 o0_2 o0_3 o0_4 o1_0 o1_1 o1_2 o1_3 o1_4 μ)=
 some (oF o1_0 o1_1 o1_2 o1_3 o1_4 μ):=by kernel_rfl
theorem wj (x0 x1 o0_0 o0_1 o0_2 o0_3 o0_4 o1_0 o1_1 o1_2 o1_3 o1_4 μ):kS ρ H63 [.block 7,.seq (cA 63 [1,1,1,1,1])] [(4,0)] (tK x0 x1 o0_0 o0_1 o0_2 o0_3 o0_4 o1_0 o1_1 o1_2 o1_3 o1_4 μ)=
 callK (ρ.call 113 [] μ) (fun v94 μ95 =>
 opt (bp v94) fun l98=>
 opt (pK ρ x0 x1 l98 (List.length l98:Int) (0:Int) o0_0 o0_1 o0_2 o0_3 o0_4 o1_0 o1_1 o1_2 o1_3 o1_4 μ95) (kS ρ H63 [.block 9,.seq (cA 63 [1,1,1,1,1,1])] [(4,0)])) (pX AR):=by kernel_rfl
theorem RS (x0 x1 o0_0 o0_1 o0_2 o0_3 o0_4 μ):(I4 x0 x1 o0_0 o0_1 o0_2 o0_3 o0_4).sK ρ μ=
 callK (ρ.call 112 [] μ) (fun v81 μ82 =>
 opt (bp v81) fun l85=>
 opt (sy ρ x0 x1 l85 (List.length l85:Int) (0:Int) o0_0 o0_1 o0_2 o0_3 o0_4 (0:Int) (0:Int) ([]:List UInt8) (0:Int) (7:Int) μ82) (kS ρ H63 [.block 7,.seq (cA 63 [1,1,1,1,1])] [(4,0)])) (pX AR):=by kernel_rfl
theorem wh (o0_0 o0_1 o0_2 o0_3 o0_4 μ):kB ρ 63 H63 [] (oF o0_0 o0_1 o0_2 o0_3 o0_4 μ)=
 some (.ret (LV.cv (CV.agg [CV.int .i64 o0_0,CV.int .i64 o0_1,CV.str o0_2,CV.int .i64 o0_3,CV.int .i64 o0_4])) μ):=by kernel_rfl
theorem Ha (x0 x1 o0_0 o0_1 o0_2 o0_3 o0_4 μ):kB ρ 63 H63 [.block 0,.seq (cA 63 [1,1,1])] (td x0 x1 o0_0 o0_1 o0_2 o0_3 o0_4 μ)=
 opt (M0 ρ x0 x1 o0_0 o0_1 o0_2 o0_3 o0_4 μ) (kB ρ 63 H63 []):=by kernel_rfl
theorem Zf (a b μ):aD E ρ 63 [LV.str a,LV.int .i64 b] μ=
 opt (bu a b) fun y1=>
 callK (ρ.call 105 [LV.int .u8 (y1.toNat : Int)] μ) (fun v2 μ3 =>
 opt (aM v2) fun b6=>
 cond (b6) (
 opt (vh ρ a b b (0:Int) (0:Int) ([]:List UInt8) (0:Int) (0:Int) μ3) (kB ρ 63 H63 [.block 1,.seq (cA 63 [1,1,0,0,1,0,1,1]),.block 0,.seq (cA 63 [1,1,1])])) (
 callK (ρ.call 106 [LV.int .u8 (y1.toNat : Int)] μ3) (fun v28 μ29 =>
 opt (aM v28) fun b32=>
 cond (b32) (
 opt (pG ρ a b (y1.toNat:Int) b32 (0:Int) (0:Int) ([]:List UInt8) (0:Int) (0:Int) μ29) (kB ρ 63 H63 [.block 0,.seq (cA 63 [1,1,1])])) (
 cond (decide ((y1.toNat : Int) = (46 : Int))) (
 cond (decide (IntKind.wrap .i64 (b + (1 : Int)) < (List.length a : Int))) (
 opt (bu a (IntKind.wrap .i64 (b+(1:Int)))) fun y110=>
 callK (ρ.call 106 [LV.int .u8 (y110.toNat : Int)] μ29) (fun v111 μ112 =>
 opt (aM v111) fun b115=>
 opt (pG ρ a b (y1.toNat:Int) b115 (0:Int) (0:Int) ([]:List UInt8) (0:Int) (0:Int) μ112) (kB ρ 63 H63 [.block 0,.seq (cA 63 [1,1,1])])) pP) (
 opt (pG ρ a b (y1.toNat:Int) false (0:Int) (0:Int) ([]:List UInt8) (0:Int) (0:Int) μ29) (kB ρ 63 H63 [.block 0,.seq (cA 63 [1,1,1])]))) (
 opt (pG ρ a b (y1.toNat:Int) false (0:Int) (0:Int) ([]:List UInt8) (0:Int) (0:Int) μ29) (kB ρ 63 H63 [.block 0,.seq (cA 63 [1,1,1])])))) pP)) pP:=by kernel_rfl
theorem Wc (a μ):aD E ρ 64 [LV.cv (CV.sl a)] μ=
 callK (ρ.call 33 [LV.cv (CV.sl a)] μ) (fun v1 μ2 =>
 opt (aT v1) fun xs5=>
 opt (aw xs5) fun q6=>
 opt (aC .i64 q6.1) fun n7=>
 opt (aw q6.2) fun q8=>
 opt (aC .i64 q8.1) fun n9=>
 opt (aO q8.2) fun u10=>
 cond (!decide (n9 = (0 : Int))) (
 some (.ret (LV.ltup [LV.cv (CV.v (.pointer none)),LV.int .i64 n9]) μ2)) (
 callK (ρ.call 114 [LV.cv (CV.sl a)] μ2) (fun v11 μ12 =>
 opt (bP v11) fun c15=>
 some (.ret (LV.ltup [LV.cv c15,LV.int .i64 (0:Int)]) μ12)) pP)) pP:=by kernel_rfl
def N2 (x1:Int)(x2:List CV)(o0_0 o0_1:Int)(o0_2:List UInt8)(o0_3:List CV):SegD:=⟨H67,[(6,0),(7,0)],cA 67 [1,1,1],mS [(1,LV.int .i64 x1),(2,LV.cv (CV.sl x2)),(8,LV.loc 0 0)] [Ob.cells [LV.int .i64 o0_0,LV.int .i64 o0_1,LV.str o0_2,LV.cv (CV.sl o0_3)]]⟩
def Kr (x1:Int)(x2:List CV)(o0_0 o0_1:Int)(o0_2:List UInt8)(o0_3:List CV)(μ:Mu):=(N2 x1 x2 o0_0 o0_1 o0_2 o0_3).seg ρ μ
def nF (x6 x7:Int)(μ:Mu):St:= .ret (mS [(6,LV.int .i64 x6),(7,LV.int .i64 x7)] []) μ
def N3 (x1:Int)(x2:List CV)(o0_0 o0_1:Int)(o0_2:List UInt8)(o0_3:List CV):SegD:=⟨H67,[(6,0),(7,0)],cA 67 [1,1,1,1],mS [(1,LV.int .i64 x1),(2,LV.cv (CV.sl x2)),(8,LV.loc 0 0)] [Ob.cells [LV.int .i64 o0_0,LV.int .i64 o0_1,LV.str o0_2,LV.cv (CV.sl o0_3)]]⟩
def SP (x1:Int)(x2:List CV)(o0_0 o0_1:Int)(o0_2:List UInt8)(o0_3:List CV)(μ:Mu):=(N3 x1 x2 o0_0 o0_1 o0_2 o0_3).seg ρ μ
def Jz (x1:Int)(x2:List CV)(x11:Bool)(x67:List CV)(x68 x69 o0_0 o0_1:Int)(o0_2:List UInt8)(o0_3:List CV):SegD:=⟨H67,[(1,0),(2,2),(8,0),(11,0)],cA 67 [1,1,1,1,1,1,0,1,0,0],mS [(1,LV.int .i64 x1),(2,LV.cv (CV.sl x2)),(8,LV.loc 0 0),(11,LV.bool x11),(67,LV.cv (CV.sl x67)),(68,LV.int .i64 x68),(69,LV.int .i64 x69)] [Ob.cells [LV.int .i64 o0_0,LV.int .i64 o0_1,LV.str o0_2,LV.cv (CV.sl o0_3)]]⟩
def fy (x1:Int)(x2:List CV)(x11:Bool)(x67:List CV)(x68 x69 o0_0 o0_1:Int)(o0_2:List UInt8)(o0_3:List CV)(μ:Mu):=(Jz x1 x2 x11 x67 x68 x69 o0_0 o0_1 o0_2 o0_3).loop ρ μ
def Nv (pv:CV)(μ:Mu):St:= .panic pv (mS [] []) μ
def tM (x1:Int)(x2:List CV)(x11:Bool)(o0_0 o0_1:Int)(o0_2:List UInt8)(o0_3:List CV)(μ:Mu):St:= .exit 0 (mS [(1,LV.int .i64 x1),(2,LV.cv (CV.sl x2)),(8,LV.loc 0 0),(11,LV.bool x11)] [Ob.cells [LV.int .i64 o0_0,LV.int .i64 o0_1,LV.str o0_2,LV.cv (CV.sl o0_3)]]) μ
def nG (x6 x7:Int)(μ:Mu):St:= .ret (mS [(6,LV.int .i64 x6),(7,LV.int .i64 x7)] []) μ
def I5 (x1:Int)(x2:List CV)(o0_0 o0_1:Int)(o0_2:List UInt8)(o0_3:List CV):SegD:=⟨H67,[(6,0),(7,0)],cA 67 [1,1,1,1,1,1,1,1],mS [(1,LV.int .i64 x1),(2,LV.cv (CV.sl x2)),(8,LV.loc 0 0)] [Ob.cells [LV.int .i64 o0_0,LV.int .i64 o0_1,LV.str o0_2,LV.cv (CV.sl o0_3)]]⟩
def M1 (x1:Int)(x2:List CV)(o0_0 o0_1:Int)(o0_2:List UInt8)(o0_3:List CV)(μ:Mu):=(I5 x1 x2 o0_0 o0_1 o0_2 o0_3).seg ρ μ
def oG (x6 x7:Int)(μ:Mu):St:= .ret (mS [(6,LV.int .i64 x6),(7,LV.int .i64 x7)] []) μ
def I6 (x14 o0_0 o0_1:Int)(o0_2:List UInt8)(o0_3:List CV):SegD:=⟨H67,[(6,0),(7,0)],cA 67 [1,1,1,1,1,1,1,1,1,1],mS [(8,LV.loc 0 0),(14,LV.int .i64 x14)] [Ob.cells [LV.int .i64 o0_0,LV.int .i64 o0_1,LV.str o0_2,LV.cv (CV.sl o0_3)]]⟩
def M2 (x14 o0_0 o0_1:Int)(o0_2:List UInt8)(o0_3:List CV)(μ:Mu):=(I6 x14 o0_0 o0_1 o0_2 o0_3).seg ρ μ
def fl (x6 x7:Int)(μ:Mu):St:= .ret (mS [(6,LV.int .i64 x6),(7,LV.int .i64 x7)] []) μ
def ml (pv:CV)(μ:Mu):St:= .panic pv (mS [] []) μ
def Nl (pv:CV)(μ:Mu):St:= .panic pv (mS [] []) μ
def Qz (pv:CV)(μ:Mu):St:= .panic pv (mS [] []) μ
theorem ED (x1 x2 x11 x67 x68 x69 o0_0 o0_1 o0_2 o0_3 μ):(Jz x1 x2 x11 x67 x68 x69 o0_0 o0_1 o0_2 o0_3).rK ρ μ=
 cond (decide (x69 < x68)) (
 opt (bm x67 x69) fun c27=>
 opt (aC .i64 (LV.cv c27)) fun n28=>
 cond (x11) (
 callK (ρ.call 72 [LV.int .i64 n28, LV.int .i64 (0 : Int), LV.int .i64 (IntKind.wrap .i64 (x1 - (1 : Int)))] μ) (fun v29 μ30 =>
 opt (aM v29) fun b33=>
 cond (b33) (
 fy ρ x1 x2 true x67 x68 (IntKind.wrap .i64 (x69+(1:Int))) o0_0 o0_1 o0_2 o0_3 μ30) (
 cond (decide (n28 = (-1 : Int))) (
 fy ρ x1 x2 (decide (o0_0=(3:Int))) x67 x68 (IntKind.wrap .i64 (x69+(1:Int))) o0_0 o0_1 o0_2 o0_3 μ30) (
 fy ρ x1 x2 false x67 x68 (IntKind.wrap .i64 (x69+(1:Int))) o0_0 o0_1 o0_2 o0_3 μ30))) (pX Nv)) (
 fy ρ x1 x2 false x67 x68 (IntKind.wrap .i64 (x69+(1:Int))) o0_0 o0_1 o0_2 o0_3 μ)) (
 some (tM x1 x2 x11 o0_0 o0_1 o0_2 o0_3 μ)):=by kernel_rfl
theorem nY (x14 o0_0 o0_1 o0_2 o0_3 μ):(I6 x14 o0_0 o0_1 o0_2 o0_3).sK ρ μ=
 cond (decide (o0_0 = (1 : Int))) (
 callK (ρ.call 78 [LV.str o0_2] μ) (fun v44 μ45 =>
 opt (aM v44) fun b48=>
 cond (!b48) (
 some (fl (0:Int) (4:Int) μ45)) (
 cond (decide (o0_0 = (0 : Int))) (
 callK (ρ.call 90 [LV.int .i64 o0_1, LV.str o0_2] μ45) (fun v49 μ50 =>
 opt (aC .i64 v49) fun n53=>
 some (fl x14 n53 μ50)) (pX ml)) (
 some (fl x14 (0:Int) μ45)))) (pX ml)) (
 cond (decide (o0_0 = (2 : Int))) (
 callK (ρ.call 78 [LV.str o0_2] μ) (fun v54 μ55 =>
 opt (aM v54) fun b58=>
 cond (!b58) (
 some (fl (0:Int) (4:Int) μ55)) (
 cond (decide (o0_0 = (0 : Int))) (
 callK (ρ.call 90 [LV.int .i64 o0_1, LV.str o0_2] μ55) (fun v59 μ60 =>
 opt (aC .i64 v59) fun n63=>
 some (fl x14 n63 μ60)) (pX ml)) (
 some (fl x14 (0:Int) μ55)))) (pX ml)) (
 cond (decide (o0_0 = (0 : Int))) (
 callK (ρ.call 90 [LV.int .i64 o0_1, LV.str o0_2] μ) (fun v64 μ65 =>
 opt (aC .i64 v64) fun n68=>
 some (fl x14 n68 μ65)) (pX ml)) (
 some (fl x14 (0:Int) μ)))):=by kernel_rfl
theorem Hc (x6 x7 μ):kS ρ H67 [] [(6,0),(7,0)] (fl x6 x7 μ)=
 some (oG x6 x7 μ):=by kernel_rfl
theorem Eg (x1 x2 o0_0 o0_1 o0_2 o0_3 μ):(I5 x1 x2 o0_0 o0_1 o0_2 o0_3).sK ρ μ=
 callK (ρ.call 117 [LV.cv (CV.sl x2), LV.cv (CV.sl o0_3), LV.int .i64 x1] μ) (fun v34 μ35 =>
 opt (aT v34) fun xs38=>
 opt (aw xs38) fun q39=>
 opt (aC .i64 q39.1) fun n40=>
 opt (aw q39.2) fun q41=>
 opt (aM q41.1) fun b42=>
 opt (aO q41.2) fun u43=>
 cond (!b42) (
 some (oG (0:Int) (3:Int) μ35)) (
 opt (M2 ρ n40 o0_0 o0_1 o0_2 o0_3 μ35) (kS ρ H67 [] [(6,0),(7,0)]))) (pX Nl):=by kernel_rfl
theorem Hb (x6 x7 μ):kS ρ H67 [] [(6,0),(7,0)] (oG x6 x7 μ)=
 some (nG x6 x7 μ):=by kernel_rfl
theorem HJ (x1 x2 x11 o0_0 o0_1 o0_2 o0_3 μ):kS ρ H67 [.block 0,.seq (cA 67 [1,1,1,1,1,1,1])] [(6,0),(7,0)] (tM x1 x2 x11 o0_0 o0_1 o0_2 o0_3 μ)=
 cond (!x11) (
 some (nG (0:Int) (3:Int) μ)) (
 opt (M1 ρ x1 x2 o0_0 o0_1 o0_2 o0_3 μ) (kS ρ H67 [] [(6,0),(7,0)])):=by kernel_rfl
theorem Ul (x1 x2 o0_0 o0_1 o0_2 o0_3 μ):(N3 x1 x2 o0_0 o0_1 o0_2 o0_3).sK ρ μ=
 cond (decide (o0_0 = (0 : Int))) (
 cond (decide (o0_0 = (0 : Int))) (
 opt (fy ρ x1 x2 true o0_3 (List.length o0_3:Int) (0:Int) o0_0 o0_1 o0_2 o0_3 μ) (kS ρ H67 [.block 0,.seq (cA 67 [1,1,1,1,1,1,1])] [(6,0),(7,0)])) (
 opt (fy ρ x1 x2 (decide (o0_1=(0:Int))) o0_3 (List.length o0_3:Int) (0:Int) o0_0 o0_1 o0_2 o0_3 μ) (kS ρ H67 [.block 0,.seq (cA 67 [1,1,1,1,1,1,1])] [(6,0),(7,0)]))) (
 cond (decide (o0_0 = (1 : Int))) (
 cond (decide (o0_0 = (0 : Int))) (
 opt (fy ρ x1 x2 true o0_3 (List.length o0_3:Int) (0:Int) o0_0 o0_1 o0_2 o0_3 μ) (kS ρ H67 [.block 0,.seq (cA 67 [1,1,1,1,1,1,1])] [(6,0),(7,0)])) (
 opt (fy ρ x1 x2 (decide (o0_1=(0:Int))) o0_3 (List.length o0_3:Int) (0:Int) o0_0 o0_1 o0_2 o0_3 μ) (kS ρ H67 [.block 0,.seq (cA 67 [1,1,1,1,1,1,1])] [(6,0),(7,0)]))) (
 cond (decide (o0_0 = (2 : Int))) (
 cond (decide (o0_0 = (0 : Int))) (
 opt (fy ρ x1 x2 true o0_3 (List.length o0_3:Int) (0:Int) o0_0 o0_1 o0_2 o0_3 μ) (kS ρ H67 [.block 0,.seq (cA 67 [1,1,1,1,1,1,1])] [(6,0),(7,0)])) (
 opt (fy ρ x1 x2 (decide (o0_1=(0:Int))) o0_3 (List.length o0_3:Int) (0:Int) o0_0 o0_1 o0_2 o0_3 μ) (kS ρ H67 [.block 0,.seq (cA 67 [1,1,1,1,1,1,1])] [(6,0),(7,0)]))) (
 cond (decide (o0_2 = ([] : List UInt8))) (
 cond (decide (o0_0 = (0 : Int))) (
 opt (fy ρ x1 x2 true o0_3 (List.length o0_3:Int) (0:Int) o0_0 o0_1 o0_2 o0_3 μ) (kS ρ H67 [.block 0,.seq (cA 67 [1,1,1,1,1,1,1])] [(6,0),(7,0)])) (
 opt (fy ρ x1 x2 (decide (o0_1=(0:Int))) o0_3 (List.length o0_3:Int) (0:Int) o0_0 o0_1 o0_2 o0_3 μ) (kS ρ H67 [.block 0,.seq (cA 67 [1,1,1,1,1,1,1])] [(6,0),(7,0)]))) (
 opt (fy ρ x1 x2 false o0_3 (List.length o0_3:Int) (0:Int) o0_0 o0_1 o0_2 o0_3 μ) (kS ρ H67 [.block 0,.seq (cA 67 [1,1,1,1,1,1,1])] [(6,0),(7,0)]))))):=by kernel_rfl
theorem LM (x6 x7 μ):kS ρ H67 [] [(6,0),(7,0)] (nG x6 x7 μ)=
 some (nF x6 x7 μ):=by kernel_rfl
theorem JX (x1 x2 o0_0 o0_1 o0_2 o0_3 μ):(N2 x1 x2 o0_0 o0_1 o0_2 o0_3).sK ρ μ=
 callK (ρ.call 69 [] μ) (fun v11 μ12 =>
 opt (cU v11) fun cs15=>
 ax (bW o0_0 25) (
 opt (el E.P 113 cs15 (Int.toNat o0_0*5)) fun c16=>
 dm (LV.cv c16) fun n17 n18 n19 l20 s21=>
 callK (ρ.call 72 [LV.int .i64 (List.length o0_3 : Int), LV.int .i64 n18, LV.int .i64 n19] μ12) (fun v22 μ23 =>
 opt (aM v22) fun b26=>
 cond (!b26) (
 some (nF (0:Int) (10:Int) μ23)) (
 opt (SP ρ x1 x2 o0_0 o0_1 o0_2 o0_3 μ23) (kS ρ H67 [] [(6,0),(7,0)]))) (pX Qz))) pN:=by kernel_rfl
theorem ze (x6 x7 μ):kB ρ 67 H67 [] (nF x6 x7 μ)=
 some (.ret (LV.ltup [LV.int .i64 x6,LV.int .i64 x7]) μ):=by kernel_rfl
theorem Rp (a b c μ):aD E ρ 67 [LV.cv (CV.sl a),LV.int .i64 b,LV.cv (CV.sl c)] μ=
 opt (bm a b) fun c1=>
 eS (LV.cv c1) fun n2 n3 s4 l5=>
 callK (ρ.call 72 [LV.int .i64 n2, LV.int .i64 (0 : Int), LV.int .i64 (24 : Int)] μ) (fun v6 μ7 =>
 opt (aM v6) fun b10=>
 cond (!b10) (
 some (.ret (LV.ltup [LV.int .i64 (0:Int),LV.int .i64 (15:Int)]) μ7)) (
 opt (Kr ρ b c n2 n3 s4 l5 μ7) (kB ρ 67 H67 []))) pP:=by kernel_rfl
def Ok (x0_0 x0_1:Int)(x0_2:List UInt8)(x0_3 x10:List CV)(x11 x12:Int):SegD:=⟨H68,[(0,0)],cA 68 [1,0,1,0,0],mS [(0,LV.cv (CV.view [CV.int .i64 x0_0,CV.int .i64 x0_1,CV.str x0_2,CV.sl x0_3])),(10,LV.cv (CV.sl x10)),(11,LV.int .i64 x11),(12,LV.int .i64 x12)] []⟩
def xV (x0_0 x0_1:Int)(x0_2:List UInt8)(x0_3 x10:List CV)(x11 x12:Int)(μ:Mu):=(Ok x0_0 x0_1 x0_2 x0_3 x10 x11 x12).loop ρ μ
def w7 (x2:Int)(μ:Mu):St:= .ret (mS [(2,LV.int .i64 x2)] []) μ
def w8 (x0_0 x0_1:Int)(x0_2:List UInt8)(x0_3:List CV)(μ:Mu):St:= .exit 0 (mS [(0,LV.cv (CV.view [CV.int .i64 x0_0,CV.int .i64 x0_1,CV.str x0_2,CV.sl x0_3]))] []) μ
def Ol (x0_0 x0_1:Int)(x0_2:List UInt8)(x0_3 x36:List CV)(x37 x38:Int):SegD:=⟨H68,[],cA 68 [1,1,0,1,0,0],mS [(0,LV.cv (CV.view [CV.int .i64 x0_0,CV.int .i64 x0_1,CV.str x0_2,CV.sl x0_3])),(36,LV.cv (CV.sl x36)),(37,LV.int .i64 x37),(38,LV.int .i64 x38)] []⟩
def vk (x0_0 x0_1:Int)(x0_2:List UInt8)(x0_3 x36:List CV)(x37 x38:Int)(μ:Mu):=(Ol x0_0 x0_1 x0_2 x0_3 x36 x37 x38).loop ρ μ
def nJ (x2:Int)(μ:Mu):St:= .ret (mS [(2,LV.int .i64 x2)] []) μ
def QE (pv:CV)(μ:Mu):St:= .panic pv (mS [] []) μ
def w9 (μ:Mu):St:= .exit 2 (mS [] []) μ
theorem J5 (x0_0 x0_1 x0_2 x0_3 x10 x11 x12 μ):(Ok x0_0 x0_1 x0_2 x0_3 x10 x11 x12).rK ρ μ=
 cond (decide (x12 < x11)) (
 opt (bm x10 x12) fun c1=>
 ax (dc c1) (
 opt (n0 (LV.cv c1)) fun b2=>
 cond (!b2) (
 opt (eU (LV.cv c1)) fun b3=>
 ax (!b3) (
 opt (dq (LV.cv (eM c1))) fun cs4=>
 opt (aw cs4) fun q5=>
 opt (aC .i64 (LV.cv q5.1)) fun n6=>
 opt (aw q5.2) fun q7=>
 opt (aC .i64 (LV.cv q7.1)) fun n8=>
 opt (aw q7.2) fun q9=>
 opt (aN (LV.cv q9.1)) fun s10=>
 opt (aw q9.2) fun q11=>
 opt (bp (LV.cv q11.1)) fun l12=>
 opt (aO q11.2) fun u13=>
 cond (decide (n6 = (3 : Int))) (
 cond (!decide (x0_0 = (2 : Int))) (
 some (w7 (3:Int) μ)) (
 xV ρ x0_0 x0_1 x0_2 x0_3 x10 x11 (IntKind.wrap .i64 (x12+(1:Int))) μ)) (
 xV ρ x0_0 x0_1 x0_2 x0_3 x10 x11 (IntKind.wrap .i64 (x12+(1:Int))) μ))) (
 xV ρ x0_0 x0_1 x0_2 x0_3 x10 x11 (IntKind.wrap .i64 (x12+(1:Int))) μ))) (
 some (w8 x0_0 x0_1 x0_2 x0_3 μ)):=by kernel_rfl
theorem L9 (x2 μ):kB ρ 68 H68 [.block 0,.seq (cA 68 [1,1])] (w7 x2 μ)=
 some (.ret (LV.int .i64 x2) μ):=by kernel_rfl
theorem J6 (x0_0 x0_1 x0_2 x0_3 x36 x37 x38 μ):(Ol x0_0 x0_1 x0_2 x0_3 x36 x37 x38).rK ρ μ=
 cond (decide (x38 < x37)) (
 opt (bm x36 x38) fun c14=>
 ax (dc c14) (
 cond (decide (x0_0 = (4 : Int))) (
 callK (ρ.call 76 [LV.cv c14] μ) (fun v15 μ16 =>
 opt (aM v15) fun b19=>
 cond (!b19) (
 some (nJ (13:Int) μ16)) (
 opt (n0 (LV.cv c14)) fun b20=>
 cond (!b20) (
 callK (ρ.call 69 [] μ16) (fun v21 μ22 =>
 opt (cU v21) fun cs25=>
 opt (eU (LV.cv c14)) fun b26=>
 ax (!b26) (
 opt (dq (LV.cv (eM c14))) fun cs27=>
 opt (aw cs27) fun q28=>
 opt (aC .i64 (LV.cv q28.1)) fun n29=>
 opt (aw q28.2) fun q30=>
 opt (aC .i64 (LV.cv q30.1)) fun n31=>
 opt (aw q30.2) fun q32=>
 opt (aN (LV.cv q32.1)) fun s33=>
 opt (aw q32.2) fun q34=>
 opt (bp (LV.cv q34.1)) fun l35=>
 opt (aO q34.2) fun u36=>
 ax (bW n29 25) (
 opt (el E.P 113 cs25 (Int.toNat n29*5)) fun c37=>
 dm (LV.cv c37) fun n38 n39 n40 l41 s42=>
 callK (ρ.call 115 [LV.int .i64 x0_0, LV.int .i64 x38, LV.int .i64 n38] μ22) (fun v43 μ44 =>
 opt (aM v43) fun b47=>
 cond (!b47) (
 some (nJ (9:Int) μ44)) (
 vk ρ x0_0 x0_1 x0_2 x0_3 x36 x37 (IntKind.wrap .i64 (x38+(1:Int))) μ44)) pN))) pN) (
 vk ρ x0_0 x0_1 x0_2 x0_3 x36 x37 (IntKind.wrap .i64 (x38+(1:Int))) μ16))) (pX QE)) (
 opt (n0 (LV.cv c14)) fun b48=>
 cond (!b48) (
 callK (ρ.call 69 [] μ) (fun v49 μ50 =>
 opt (cU v49) fun cs53=>
 opt (eU (LV.cv c14)) fun b54=>
 ax (!b54) (
 opt (dq (LV.cv (eM c14))) fun cs55=>
 opt (aw cs55) fun q56=>
 opt (aC .i64 (LV.cv q56.1)) fun n57=>
 opt (aw q56.2) fun q58=>
 opt (aC .i64 (LV.cv q58.1)) fun n59=>
 opt (aw q58.2) fun q60=>
 opt (aN (LV.cv q60.1)) fun s61=>
 opt (aw q60.2) fun q62=>
 opt (bp (LV.cv q62.1)) fun l63=>
 opt (aO q62.2) fun u64=>
 ax (bW n57 25) (
 opt (el E.P 113 cs53 (Int.toNat n57*5)) fun c65=>
 dm (LV.cv c65) fun n66 n67 n68 l69 s70=>
 callK (ρ.call 115 [LV.int .i64 x0_0, LV.int .i64 x38, LV.int .i64 n66] μ50) (fun v71 μ72 =>
 opt (aM v71) fun b75=>
 cond (!b75) (
 some (nJ (9:Int) μ72)) (
 vk ρ x0_0 x0_1 x0_2 x0_3 x36 x37 (IntKind.wrap .i64 (x38+(1:Int))) μ72)) pN))) pN) (
 vk ρ x0_0 x0_1 x0_2 x0_3 x36 x37 (IntKind.wrap .i64 (x38+(1:Int))) μ)))) (
 some (w9 μ)):=by kernel_rfl
theorem Mb (x2 μ):kB ρ 68 H68 [.block 2,.seq (cA 68 [1,1,1])] (nJ x2 μ)=
 some (.ret (LV.int .i64 x2) μ):=by kernel_rfl
theorem Mc (μ):kB ρ 68 H68 [.block 2,.seq (cA 68 [1,1,1])] (w9 μ)=
 some (.ret (LV.int .i64 (0:Int)) μ):=by kernel_rfl
theorem Ma (x0_0 x0_1 x0_2 x0_3 μ):kB ρ 68 H68 [.block 0,.seq (cA 68 [1,1])] (w8 x0_0 x0_1 x0_2 x0_3 μ)=
 opt (vk ρ x0_0 x0_1 x0_2 x0_3 x0_3 (List.length x0_3:Int) (0:Int) μ) (kB ρ 68 H68 [.block 2,.seq (cA 68 [1,1,1])]):=by kernel_rfl
theorem Zg (a_0 a_1 a_2 a_3 μ):aD E ρ 68 [LV.cv (CV.view [CV.int .i64 a_0,CV.int .i64 a_1,CV.str a_2,CV.sl a_3])] μ=
 opt (xV ρ a_0 a_1 a_2 a_3 a_3 (List.length a_3:Int) (0:Int) μ) (kB ρ 68 H68 [.block 0,.seq (cA 68 [1,1])]):=by kernel_rfl
theorem Zh (μ):aD E ρ 69 [] μ=
 callK (ρ.call 119 [LV.int .i64 (9 : Int), LV.int .i64 (10 : Int), LV.int .i64 (9 : Int), LV.str ([42, 42] : List UInt8)] μ) (fun v1 μ2 =>
 dm v1 fun n5 n6 n7 l8 s9=>
 callK (ρ.call 119 [LV.int .i64 (8 : Int), LV.int .i64 (8 : Int), LV.int .i64 (9 : Int), LV.str ([42] : List UInt8)] μ2) (fun v10 μ11 =>
 dm v10 fun n14 n15 n16 l17 s18=>
 callK (ρ.call 119 [LV.int .i64 (8 : Int), LV.int .i64 (8 : Int), LV.int .i64 (9 : Int), LV.str ([47] : List UInt8)] μ11) (fun v19 μ20 =>
 dm v19 fun n23 n24 n25 l26 s27=>
 callK (ρ.call 119 [LV.int .i64 (7 : Int), LV.int .i64 (7 : Int), LV.int .i64 (8 : Int), LV.str ([43] : List UInt8)] μ20) (fun v28 μ29 =>
 dm v28 fun n32 n33 n34 l35 s36=>
 callK (ρ.call 119 [LV.int .i64 (7 : Int), LV.int .i64 (7 : Int), LV.int .i64 (8 : Int), LV.str ([45] : List UInt8)] μ29) (fun v37 μ38 =>
 dm v37 fun n41 n42 n43 l44 s45=>
 callK (ρ.call 119 [LV.int .i64 (6 : Int), LV.int .i64 (6 : Int), LV.int .i64 (7 : Int), LV.str ([47, 47] : List UInt8)] μ38) (fun v46 μ47 =>
 dm v46 fun n50 n51 n52 l53 s54=>
 callK (ρ.call 118 [LV.str ([46, 76, 84, 46] : List UInt8)] μ47) (fun v55 μ56 =>
 dm v55 fun n59 n60 n61 l62 s63=>
 callK (ρ.call 118 [LV.str ([46, 76, 69, 46] : List UInt8)] μ56) (fun v64 μ65 =>
 dm v64 fun n68 n69 n70 l71 s72=>
 callK (ρ.call 118 [LV.str ([46, 69, 81, 46] : List UInt8)] μ65) (fun v73 μ74 =>
 dm v73 fun n77 n78 n79 l80 s81=>
 callK (ρ.call 118 [LV.str ([46, 78, 69, 46] : List UInt8)] μ74) (fun v82 μ83 =>
 dm v82 fun n86 n87 n88 l89 s90=>
 callK (ρ.call 118 [LV.str ([46, 71, 69, 46] : List UInt8)] μ83) (fun v91 μ92 =>
 dm v91 fun n95 n96 n97 l98 s99=>
 callK (ρ.call 118 [LV.str ([46, 71, 84, 46] : List UInt8)] μ92) (fun v100 μ101 =>
 dm v100 fun n104 n105 n106 l107 s108=>
 callK (ρ.call 119 [LV.int .i64 (3 : Int), LV.int .i64 (3 : Int), LV.int .i64 (4 : Int), LV.str ([46, 65, 78, 68, 46] : List UInt8)] μ101) (fun v109 μ110 =>
 dm v109 fun n113 n114 n115 l116 s117=>
 callK (ρ.call 119 [LV.int .i64 (2 : Int), LV.int .i64 (2 : Int), LV.int .i64 (3 : Int), LV.str ([46, 79, 82, 46] : List UInt8)] μ110) (fun v118 μ119 =>
 dm v118 fun n122 n123 n124 l125 s126=>
 callK (ρ.call 119 [LV.int .i64 (1 : Int), LV.int .i64 (1 : Int), LV.int .i64 (2 : Int), LV.str ([46, 69, 81, 86, 46] : List UInt8)] μ119) (fun v127 μ128 =>
 dm v127 fun n131 n132 n133 l134 s135=>
 callK (ρ.call 119 [LV.int .i64 (1 : Int), LV.int .i64 (1 : Int), LV.int .i64 (2 : Int), LV.str ([46, 78, 69, 81, 86, 46] : List UInt8)] μ128) (fun v136 μ137 =>
 dm v136 fun n140 n141 n142 l143 s144=>
 some (.ret (LV.cv (CV.agg [CV.int .i64 (10:Int),CV.int .i64 (0:Int),CV.int .i64 (0:Int),CV.v (.slice none 0 0),CV.str ([]:List UInt8),CV.int .i64 (10:Int),CV.int .i64 (0:Int),CV.int .i64 (0:Int),CV.v (.slice none 0 0),CV.str ([]:List UInt8),CV.int .i64 (10:Int),CV.int .i64 (1:Int),CV.int .i64 (7:Int),CV.v (.slice none 0 0),CV.str ([]:List UInt8),CV.int .i64 (0:Int),CV.int .i64 (3:Int),CV.int .i64 (3:Int),CV.v (.slice none 0 0),CV.str ([]:List UInt8),CV.int .i64 (10:Int),CV.int .i64 (2:Int),CV.int .i64 (2:Int),CV.v (.slice none 0 0),CV.str ([]:List UInt8),CV.int .i64 (10:Int),CV.int .i64 (1:Int),CV.int .i64 (1:Int),CV.v (.slice none 0 0),CV.str ([]:List UInt8),CV.int .i64 (7:Int),CV.int .i64 (1:Int),CV.int .i64 (1:Int),CV.sl [CV.int .i64 (8:Int)],CV.str ([43]:List UInt8),CV.int .i64 (7:Int),CV.int .i64 (1:Int),CV.int .i64 (1:Int),CV.sl [CV.int .i64 (8:Int)],CV.str ([45]:List UInt8),CV.int .i64 (4:Int),CV.int .i64 (1:Int),CV.int .i64 (1:Int),CV.sl [CV.int .i64 (4:Int)],CV.str ([46,78,79,84,46]:List UInt8),CV.int .i64 n5,CV.int .i64 n6,CV.int .i64 n7,CV.sl l8,CV.str s9,CV.int .i64 n14,CV.int .i64 n15,CV.int .i64 n16,CV.sl l17,CV.str s18,CV.int .i64 n23,CV.int .i64 n24,CV.int .i64 n25,CV.sl l26,CV.str s27,CV.int .i64 n32,CV.int .i64 n33,CV.int .i64 n34,CV.sl l35,CV.str s36,CV.int .i64 n41,CV.int .i64 n42,CV.int .i64 n43,CV.sl l44,CV.str s45,CV.int .i64 n50,CV.int .i64 n51,CV.int .i64 n52,CV.sl l53,CV.str s54,CV.int .i64 n59,CV.int .i64 n60,CV.int .i64 n61,CV.sl l62,CV.str s63,CV.int .i64 n68,CV.int .i64 n69,CV.int .i64 n70,CV.sl l71,CV.str s72,CV.int .i64 n77,CV.int .i64 n78,CV.int .i64 n79,CV.sl l80,CV.str s81,CV.int .i64 n86,CV.int .i64 n87,CV.int .i64 n88,CV.sl l89,CV.str s90,CV.int .i64 n95,CV.int .i64 n96,CV.int .i64 n97,CV.sl l98,CV.str s99,CV.int .i64 n104,CV.int .i64 n105,CV.int .i64 n106,CV.sl l107,CV.str s108,CV.int .i64 n113,CV.int .i64 n114,CV.int .i64 n115,CV.sl l116,CV.str s117,CV.int .i64 n122,CV.int .i64 n123,CV.int .i64 n124,CV.sl l125,CV.str s126,CV.int .i64 n131,CV.int .i64 n132,CV.int .i64 n133,CV.sl l134,CV.str s135,CV.int .i64 n140,CV.int .i64 n141,CV.int .i64 n142,CV.sl l143,CV.str s144])) μ137)) pP) pP) pP) pP) pP) pP) pP) pP) pP) pP) pP) pP) pP) pP) pP) pP:=by kernel_rfl
def N4 (x0:List CV)(x1 o0_0 o0_1:Int)(o0_2:List UInt8)(o0_3:List CV):SegD:=⟨H70,[(4,0)],cA 70 [1,1,1],mS [(0,LV.cv (CV.sl x0)),(1,LV.int .i64 x1),(5,LV.loc 0 0)] [Ob.cells [LV.int .i64 o0_0,LV.int .i64 o0_1,LV.str o0_2,LV.cv (CV.sl o0_3)]]⟩
def SQ (x0:List CV)(x1 o0_0 o0_1:Int)(o0_2:List UInt8)(o0_3:List CV)(μ:Mu):=(N4 x0 x1 o0_0 o0_1 o0_2 o0_3).seg ρ μ
def qO (x4:Int)(μ:Mu):St:= .ret (mS [(4,LV.int .i64 x4)] []) μ
def N5 (x0:List CV)(x1 o0_0 o0_1:Int)(o0_2:List UInt8)(o0_3:List CV):SegD:=⟨H70,[(4,0)],cA 70 [1,1,1,1],mS [(0,LV.cv (CV.sl x0)),(1,LV.int .i64 x1),(5,LV.loc 0 0)] [Ob.cells [LV.int .i64 o0_0,LV.int .i64 o0_1,LV.str o0_2,LV.cv (CV.sl o0_3)]]⟩
def SR (x0:List CV)(x1 o0_0 o0_1:Int)(o0_2:List UInt8)(o0_3:List CV)(μ:Mu):=(N5 x0 x1 o0_0 o0_1 o0_2 o0_3).seg ρ μ
def Om (x0:List CV)(x1 x8 o0_0 o0_1:Int)(o0_2:List UInt8)(o0_3:List CV):SegD:=⟨H70,[(0,2),(1,0),(5,0)],cA 70 [1,1,1,1,0,1,0,0],mS [(0,LV.cv (CV.sl x0)),(1,LV.int .i64 x1),(5,LV.loc 0 0),(8,LV.int .i64 x8)] [Ob.cells [LV.int .i64 o0_0,LV.int .i64 o0_1,LV.str o0_2,LV.cv (CV.sl o0_3)]]⟩
def B3 (x0:List CV)(x1 x8 o0_0 o0_1:Int)(o0_2:List UInt8)(o0_3:List CV)(μ:Mu):=(Om x0 x1 x8 o0_0 o0_1 o0_2 o0_3).loop ρ μ
def qU (x4:Int)(μ:Mu):St:= .ret (mS [(4,LV.int .i64 x4)] []) μ
def QF (pv:CV)(μ:Mu):St:= .panic pv (mS [] []) μ
def xa (x0:List CV)(x1 o0_0 o0_1:Int)(o0_2:List UInt8)(o0_3:List CV)(μ:Mu):St:= .exit 0 (mS [(0,LV.cv (CV.sl x0)),(1,LV.int .i64 x1),(5,LV.loc 0 0)] [Ob.cells [LV.int .i64 o0_0,LV.int .i64 o0_1,LV.str o0_2,LV.cv (CV.sl o0_3)]]) μ
def gm (x4:Int)(μ:Mu):St:= .ret (mS [(4,LV.int .i64 x4)] []) μ
def CX (pv:CV)(μ:Mu):St:= .panic pv (mS [] []) μ
def I7 (x0:List CV)(x1 o0_0 o0_1:Int)(o0_2:List UInt8)(o0_3:List CV):SegD:=⟨H70,[(4,0)],cA 70 [1,1,1,1,1,1],mS [(0,LV.cv (CV.sl x0)),(1,LV.int .i64 x1),(5,LV.loc 0 0)] [Ob.cells [LV.int .i64 o0_0,LV.int .i64 o0_1,LV.str o0_2,LV.cv (CV.sl o0_3)]]⟩
def pH (x0:List CV)(x1 o0_0 o0_1:Int)(o0_2:List UInt8)(o0_3:List CV)(μ:Mu):=(I7 x0 x1 o0_0 o0_1 o0_2 o0_3).seg ρ μ
def JA (x0:List CV)(x10 x11 o0_0 o0_1:Int)(o0_2:List UInt8)(o0_3:List CV):SegD:=⟨H70,[(0,2),(5,0)],cA 70 [1,1,1,1,1,1,1,0,1,0,0],mS [(0,LV.cv (CV.sl x0)),(5,LV.loc 0 0),(10,LV.int .i64 x10),(11,LV.int .i64 x11)] [Ob.cells [LV.int .i64 o0_0,LV.int .i64 o0_1,LV.str o0_2,LV.cv (CV.sl o0_3)]]⟩
def xW (x0:List CV)(x10 x11 o0_0 o0_1:Int)(o0_2:List UInt8)(o0_3:List CV)(μ:Mu):=(JA x0 x10 x11 o0_0 o0_1 o0_2 o0_3).loop ρ μ
def tN (x4:Int)(μ:Mu):St:= .ret (mS [(4,LV.int .i64 x4)] []) μ
def Nw (pv:CV)(μ:Mu):St:= .panic pv (mS [] []) μ
def tO (x0:List CV)(o0_0 o0_1:Int)(o0_2:List UInt8)(o0_3:List CV)(μ:Mu):St:= .exit 2 (mS [(0,LV.cv (CV.sl x0)),(5,LV.loc 0 0)] [Ob.cells [LV.int .i64 o0_0,LV.int .i64 o0_1,LV.str o0_2,LV.cv (CV.sl o0_3)]]) μ
def j1 (x4:Int)(μ:Mu):St:= .ret (mS [(4,LV.int .i64 x4)] []) μ
def AS (pv:CV)(μ:Mu):St:= .panic pv (mS [] []) μ
def I8 (x0:List CV)(o0_0 o0_1:Int)(o0_2:List UInt8)(o0_3:List CV):SegD:=⟨H70,[(4,0)],cA 70 [1,1,1,1,1,1,1,1,1],mS [(0,LV.cv (CV.sl x0)),(5,LV.loc 0 0)] [Ob.cells [LV.int .i64 o0_0,LV.int .i64 o0_1,LV.str o0_2,LV.cv (CV.sl o0_3)]]⟩
def xP (x0:List CV)(o0_0 o0_1:Int)(o0_2:List UInt8)(o0_3:List CV)(μ:Mu):=(I8 x0 o0_0 o0_1 o0_2 o0_3).seg ρ μ
def oH (x4:Int)(μ:Mu):St:= .ret (mS [(4,LV.int .i64 x4)] []) μ
def Nm (pv:CV)(μ:Mu):St:= .panic pv (mS [] []) μ
def I9 (x0:List CV)(o0_0 o0_1:Int)(o0_2:List UInt8)(o0_3:List CV):SegD:=⟨H70,[(4,0)],cA 70 [1,1,1,1,1,1,1,1,1,1],mS [(0,LV.cv (CV.sl x0)),(5,LV.loc 0 0)] [Ob.cells [LV.int .i64 o0_0,LV.int .i64 o0_1,LV.str o0_2,LV.cv (CV.sl o0_3)]]⟩
def M3 (x0:List CV)(o0_0 o0_1:Int)(o0_2:List UInt8)(o0_3:List CV)(μ:Mu):=(I9 x0 o0_0 o0_1 o0_2 o0_3).seg ρ μ
def JB (x0:List CV)(x13 o0_0 o0_1:Int)(o0_2:List UInt8)(o0_3:List CV):SegD:=⟨H70,[(0,2),(5,0)],cA 70 [1,1,1,1,1,1,1,1,1,1,0,1,0,0],mS [(0,LV.cv (CV.sl x0)),(5,LV.loc 0 0),(13,LV.int .i64 x13)] [Ob.cells [LV.int .i64 o0_0,LV.int .i64 o0_1,LV.str o0_2,LV.cv (CV.sl o0_3)]]⟩
def sA (x0:List CV)(x13 o0_0 o0_1:Int)(o0_2:List UInt8)(o0_3:List CV)(μ:Mu):=(JB x0 x13 o0_0 o0_1 o0_2 o0_3).loop ρ μ
def tP (x4:Int)(μ:Mu):St:= .ret (mS [(4,LV.int .i64 x4)] []) μ
def tQ (x0:List CV)(o0_0 o0_1:Int)(o0_2:List UInt8)(o0_3:List CV)(μ:Mu):St:= .exit 4 (mS [(0,LV.cv (CV.sl x0)),(5,LV.loc 0 0)] [Ob.cells [LV.int .i64 o0_0,LV.int .i64 o0_1,LV.str o0_2,LV.cv (CV.sl o0_3)]]) μ
def j2 (x4:Int)(μ:Mu):St:= .ret (mS [(4,LV.int .i64 x4)] []) μ
def JC (x0:List CV)(x15 o0_0 o0_1:Int)(o0_2:List UInt8)(o0_3:List CV):SegD:=⟨H70,[(0,2),(5,0)],cA 70 [1,1,1,1,1,1,1,1,1,1,1,0,1,0,0],mS [(0,LV.cv (CV.sl x0)),(5,LV.loc 0 0),(15,LV.int .i64 x15)] [Ob.cells [LV.int .i64 o0_0,LV.int .i64 o0_1,LV.str o0_2,LV.cv (CV.sl o0_3)]]⟩
def xX (x0:List CV)(x15 o0_0 o0_1:Int)(o0_2:List UInt8)(o0_3:List CV)(μ:Mu):=(JC x0 x15 o0_0 o0_1 o0_2 o0_3).loop ρ μ
def tR (x4:Int)(μ:Mu):St:= .ret (mS [(4,LV.int .i64 x4)] []) μ
def Nx (pv:CV)(μ:Mu):St:= .panic pv (mS [] []) μ
def tS (x0:List CV)(o0_0 o0_1:Int)(o0_2:List UInt8)(o0_3:List CV)(μ:Mu):St:= .exit 6 (mS [(0,LV.cv (CV.sl x0)),(5,LV.loc 0 0)] [Ob.cells [LV.int .i64 o0_0,LV.int .i64 o0_1,LV.str o0_2,LV.cv (CV.sl o0_3)]]) μ
def JD (x0:List CV)(x17 o0_0 o0_1:Int)(o0_2:List UInt8)(o0_3:List CV):SegD:=⟨H70,[],cA 70 [1,1,1,1,1,1,1,1,1,1,1,1,0,1,0,0],mS [(0,LV.cv (CV.sl x0)),(5,LV.loc 0 0),(17,LV.int .i64 x17)] [Ob.cells [LV.int .i64 o0_0,LV.int .i64 o0_1,LV.str o0_2,LV.cv (CV.sl o0_3)]]⟩
def sB (x0:List CV)(x17 o0_0 o0_1:Int)(o0_2:List UInt8)(o0_3:List CV)(μ:Mu):=(JD x0 x17 o0_0 o0_1 o0_2 o0_3).loop ρ μ
def tT (x4:Int)(μ:Mu):St:= .ret (mS [(4,LV.int .i64 x4)] []) μ
def tU (μ:Mu):St:= .exit 8 (mS [] []) μ
def CW (pv:CV)(μ:Mu):St:= .panic pv (mS [] []) μ
theorem J7 (x0 x1 x8 o0_0 o0_1 o0_2 o0_3 μ):(Om x0 x1 x8 o0_0 o0_1 o0_2 o0_3).rK ρ μ=
 cond (decide (x8 < (List.length o0_3 : Int))) (
 opt (bm o0_3 x8) fun c26=>
 opt (aC .i64 (LV.cv c26)) fun n27=>
 callK (ρ.call 30 [LV.int .i64 n27, LV.int .i64 (0 : Int), LV.int .i64 (IntKind.wrap .i64 (x1 - (1 : Int)))] μ) (fun v28 μ29 =>
 opt (aM v28) fun b32=>
 cond (!b32) (
 cond (!decide (n27 = (-1 : Int))) (
 some (qU (3:Int) μ29)) (
 cond (!decide (o0_0 = (3 : Int))) (
 some (qU (3:Int) μ29)) (
 B3 ρ x0 x1 (IntKind.wrap .i64 (x8+(1:Int))) o0_0 o0_1 o0_2 o0_3 μ29))) (
 B3 ρ x0 x1 (IntKind.wrap .i64 (x8+(1:Int))) o0_0 o0_1 o0_2 o0_3 μ29)) (pX QF)) (
 some (xa x0 x1 o0_0 o0_1 o0_2 o0_3 μ)):=by kernel_rfl
theorem Md (x4 μ):kS ρ H70 [.block 0,.seq (cA 70 [1,1,1,1,1])] [(4,0)] (qU x4 μ)=
 some (gm x4 μ):=by kernel_rfl
theorem EE (x0 x10 x11 o0_0 o0_1 o0_2 o0_3 μ):(JA x0 x10 x11 o0_0 o0_1 o0_2 o0_3).rK ρ μ=
 cond (decide ((0 : Int) ≤ x11)) (
 opt (bm o0_3 x11) fun c38=>
 opt (aC .i64 (LV.cv c38)) fun n39=>
 cond (decide (n39 = (-1 : Int))) (
 xW ρ x0 x10 (IntKind.wrap .i64 (x11-(1:Int))) o0_0 o0_1 o0_2 o0_3 μ) (
 cond (!decide (n39 = IntKind.wrap .i64 (x10 - (1 : Int)))) (
 some (tN (3:Int) μ)) (
 callK (ρ.call 71 [LV.cv (CV.sl x0), LV.int .i64 n39] μ) (fun v40 μ41 =>
 opt (aC .i64 v40) fun n44=>
 xW ρ x0 (IntKind.wrap .i64 (x10-n44)) (IntKind.wrap .i64 (x11-(1:Int))) o0_0 o0_1 o0_2 o0_3 μ41) (pX Nw)))) (
 some (tO x0 o0_0 o0_1 o0_2 o0_3 μ)):=by kernel_rfl
theorem HK (x4 μ):kS ρ H70 [.block 2,.seq (cA 70 [1,1,1,1,1,1,1,1])] [(4,0)] (tN x4 μ)=
 some (j1 x4 μ):=by kernel_rfl
theorem EF (x0 x13 o0_0 o0_1 o0_2 o0_3 μ):(JB x0 x13 o0_0 o0_1 o0_2 o0_3).rK ρ μ=
 cond (decide (x13 < (List.length o0_3 : Int))) (
 opt (bm o0_3 x13) fun c55=>
 opt (aC .i64 (LV.cv c55)) fun n56=>
 cond (!decide (n56 = (-1 : Int))) (
 opt (bm x0 n56) fun c57=>
 eS (LV.cv c57) fun n58 n59 s60 l61=>
 cond (decide (n58 = (3 : Int))) (
 cond (!decide (o0_0 = (2 : Int))) (
 some (tP (3:Int) μ)) (
 sA ρ x0 (IntKind.wrap .i64 (x13+(1:Int))) o0_0 o0_1 o0_2 o0_3 μ)) (
 sA ρ x0 (IntKind.wrap .i64 (x13+(1:Int))) o0_0 o0_1 o0_2 o0_3 μ)) (
 sA ρ x0 (IntKind.wrap .i64 (x13+(1:Int))) o0_0 o0_1 o0_2 o0_3 μ)) (
 some (tQ x0 o0_0 o0_1 o0_2 o0_3 μ)):=by kernel_rfl
theorem HM (x4 μ):kS ρ H70 [.block 4,.seq (cA 70 [1,1,1,1,1,1,1,1,1,1,1])] [(4,0)] (tP x4 μ)=
 some (j2 x4 μ):=by kernel_rfl
theorem EG (x0 x15 o0_0 o0_1 o0_2 o0_3 μ):(JC x0 x15 o0_0 o0_1 o0_2 o0_3).rK ρ μ=
 cond (decide (x15 < (List.length o0_3 : Int))) (
 opt (bm o0_3 x15) fun c62=>
 opt (aC .i64 (LV.cv c62)) fun n63=>
 cond (decide (o0_0 = (4 : Int))) (
 callK (ρ.call 79 [LV.cv (CV.sl x0), LV.int .i64 n63] μ) (fun v64 μ65 =>
 opt (aM v64) fun b68=>
 cond (!b68) (
 some (tR (13:Int) μ65)) (
 xX ρ x0 (IntKind.wrap .i64 (x15+(1:Int))) o0_0 o0_1 o0_2 o0_3 μ65)) (pX Nx)) (
 xX ρ x0 (IntKind.wrap .i64 (x15+(1:Int))) o0_0 o0_1 o0_2 o0_3 μ)) (
 some (tS x0 o0_0 o0_1 o0_2 o0_3 μ)):=by kernel_rfl
theorem HO (x4 μ):kS ρ H70 [.block 6,.seq (cA 70 [1,1,1,1,1,1,1,1,1,1,1,1])] [(4,0)] (tR x4 μ)=
 some (j2 x4 μ):=by kernel_rfl
theorem EH (x0 x17 o0_0 o0_1 o0_2 o0_3 μ):(JD x0 x17 o0_0 o0_1 o0_2 o0_3).rK ρ μ=
 cond (decide (x17 < (List.length o0_3 : Int))) (
 opt (bm o0_3 x17) fun c69=>
 opt (aC .i64 (LV.cv c69)) fun n70=>
 cond (!decide (n70 = (-1 : Int))) (
 cond (decide ((6 : Int) ≤ o0_0)) (
 opt (bm x0 n70) fun c71=>
 eS (LV.cv c71) fun n72 n73 s74 l75=>
 callK (ρ.call 32 [LV.int .i64 n72] μ) (fun v76 μ77 =>
 opt (aC .i64 v76) fun n80=>
 callK (ρ.call 116 [LV.int .i64 o0_0, LV.int .i64 x17] μ77) (fun v81 μ82 =>
 opt (aC .i64 v81) fun n85=>
 cond (decide (n80 < n85)) (
 some (tT (9:Int) μ82)) (
 sB ρ x0 (IntKind.wrap .i64 (x17+(1:Int))) o0_0 o0_1 o0_2 o0_3 μ82)) pN) pN) (
 sB ρ x0 (IntKind.wrap .i64 (x17+(1:Int))) o0_0 o0_1 o0_2 o0_3 μ)) (
 sB ρ x0 (IntKind.wrap .i64 (x17+(1:Int))) o0_0 o0_1 o0_2 o0_3 μ)) (
 some (tU μ)):=by kernel_rfl
theorem HP (x4 μ):kS ρ H70 [.block 8,.seq (cA 70 [1,1,1,1,1,1,1,1,1,1,1,1,1])] [(4,0)] (tT x4 μ)=
 some (j2 x4 μ):=by kernel_rfl
theorem wm (μ):kS ρ H70 [.block 8,.seq (cA 70 [1,1,1,1,1,1,1,1,1,1,1,1,1])] [(4,0)] (tU μ)=
 some (j2 (0:Int) μ):=by kernel_rfl
theorem wl (x0 o0_0 o0_1 o0_2 o0_3 μ):kS ρ H70 [.block 6,.seq (cA 70 [1,1,1,1,1,1,1,1,1,1,1,1])] [(4,0)] (tS x0 o0_0 o0_1 o0_2 o0_3 μ)=
 opt (sB ρ x0 (0:Int) o0_0 o0_1 o0_2 o0_3 μ) (kS ρ H70 [.block 8,.seq (cA 70 [1,1,1,1,1,1,1,1,1,1,1,1,1])] [(4,0)]):=by kernel_rfl
theorem HN (x0 o0_0 o0_1 o0_2 o0_3 μ):kS ρ H70 [.block 4,.seq (cA 70 [1,1,1,1,1,1,1,1,1,1,1])] [(4,0)] (tQ x0 o0_0 o0_1 o0_2 o0_3 μ)=
 opt (xX ρ x0 (0:Int) o0_0 o0_1 o0_2 o0_3 μ) (kS ρ H70 [.block 6,.seq (cA 70 [1,1,1,1,1,1,1,1,1,1,1,1])] [(4,0)]):=by kernel_rfl
theorem RW (x0 o0_0 o0_1 o0_2 o0_3 μ):(I9 x0 o0_0 o0_1 o0_2 o0_3).sK ρ μ=
 opt (sA ρ x0 (0:Int) o0_0 o0_1 o0_2 o0_3 μ) (kS ρ H70 [.block 4,.seq (cA 70 [1,1,1,1,1,1,1,1,1,1,1])] [(4,0)]):=by kernel_rfl
theorem He (x4 μ):kS ρ H70 [] [(4,0)] (j2 x4 μ)=
 some (oH x4 μ):=by kernel_rfl
theorem RU (x0 o0_0 o0_1 o0_2 o0_3 μ):(I8 x0 o0_0 o0_1 o0_2 o0_3).sK ρ μ=
 cond (decide (o0_0 = (0 : Int))) (
 callK (ρ.call 122 [LV.int .i64 o0_1, LV.str o0_2] μ) (fun v50 μ51 =>
 opt (aC .i64 v50) fun n54=>
 some (oH n54 μ51)) (pX Nm)) (
 opt (M3 ρ x0 o0_0 o0_1 o0_2 o0_3 μ) (kS ρ H70 [] [(4,0)])):=by kernel_rfl
theorem pr (x4 μ):kS ρ H70 [] [(4,0)] (oH x4 μ)=
 some (j1 x4 μ):=by kernel_rfl
theorem HL (x0 o0_0 o0_1 o0_2 o0_3 μ):kS ρ H70 [.block 2,.seq (cA 70 [1,1,1,1,1,1,1,1])] [(4,0)] (tO x0 o0_0 o0_1 o0_2 o0_3 μ)=
 cond (decide (o0_0 = (1 : Int))) (
 callK (ρ.call 44 [LV.str o0_2] μ) (fun v45 μ46 =>
 opt (aM v45) fun b49=>
 cond (!b49) (
 some (j1 (4:Int) μ46)) (
 opt (xP ρ x0 o0_0 o0_1 o0_2 o0_3 μ46) (kS ρ H70 [] [(4,0)]))) (pX AS)) (
 cond (decide (o0_0 = (2 : Int))) (
 callK (ρ.call 44 [LV.str o0_2] μ) (fun v91 μ92 =>
 opt (aM v91) fun b95=>
 cond (!b95) (
 some (j1 (4:Int) μ92)) (
 opt (xP ρ x0 o0_0 o0_1 o0_2 o0_3 μ92) (kS ρ H70 [] [(4,0)]))) (pX AS)) (
 opt (xP ρ x0 o0_0 o0_1 o0_2 o0_3 μ) (kS ρ H70 [] [(4,0)]))):=by kernel_rfl
theorem RT (x0 x1 o0_0 o0_1 o0_2 o0_3 μ):(I7 x0 x1 o0_0 o0_1 o0_2 o0_3).sK ρ μ=
 opt (xW ρ x0 x1 (IntKind.wrap .i64 ((List.length o0_3:Int) -(1:Int))) o0_0 o0_1 o0_2 o0_3 μ) (kS ρ H70 [.block 2,.seq (cA 70 [1,1,1,1,1,1,1,1])] [(4,0)]):=by kernel_rfl
theorem Hd (x4 μ):kS ρ H70 [] [(4,0)] (j1 x4 μ)=
 some (gm x4 μ):=by kernel_rfl
theorem Me (x0 x1 o0_0 o0_1 o0_2 o0_3 μ):kS ρ H70 [.block 0,.seq (cA 70 [1,1,1,1,1])] [(4,0)] (xa x0 x1 o0_0 o0_1 o0_2 o0_3 μ)=
 cond (!decide (o0_0 = (0 : Int))) (
 cond (!decide (o0_1 = (0 : Int))) (
 some (gm (3:Int) μ)) (
 callK (ρ.call 121 [LV.int .i64 o0_0] μ) (fun v33 μ34 =>
 opt (aM v33) fun b37=>
 cond (!b37) (
 cond (!decide (o0_2 = ([] : List UInt8))) (
 some (gm (3:Int) μ34)) (
 opt (pH ρ x0 x1 o0_0 o0_1 o0_2 o0_3 μ34) (kS ρ H70 [] [(4,0)]))) (
 opt (pH ρ x0 x1 o0_0 o0_1 o0_2 o0_3 μ34) (kS ρ H70 [] [(4,0)]))) (pX CX))) (
 callK (ρ.call 121 [LV.int .i64 o0_0] μ) (fun v101 μ102 =>
 opt (aM v101) fun b105=>
 cond (!b105) (
 cond (!decide (o0_2 = ([] : List UInt8))) (
 some (gm (3:Int) μ102)) (
 opt (pH ρ x0 x1 o0_0 o0_1 o0_2 o0_3 μ102) (kS ρ H70 [] [(4,0)]))) (
 opt (pH ρ x0 x1 o0_0 o0_1 o0_2 o0_3 μ102) (kS ρ H70 [] [(4,0)]))) (pX CX)):=by kernel_rfl
theorem Un (x0 x1 o0_0 o0_1 o0_2 o0_3 μ):(N5 x0 x1 o0_0 o0_1 o0_2 o0_3).sK ρ μ=
 opt (B3 ρ x0 x1 (0:Int) o0_0 o0_1 o0_2 o0_3 μ) (kS ρ H70 [.block 0,.seq (cA 70 [1,1,1,1,1])] [(4,0)]):=by kernel_rfl
theorem LO (x4 μ):kS ρ H70 [] [(4,0)] (gm x4 μ)=
 some (qO x4 μ):=by kernel_rfl
theorem Um (x0 x1 o0_0 o0_1 o0_2 o0_3 μ):(N4 x0 x1 o0_0 o0_1 o0_2 o0_3).sK ρ μ=
 callK (ρ.call 120 [LV.int .i64 o0_0] μ) (fun v11 μ12 =>
 opt (aT v11) fun xs15=>
 opt (aw xs15) fun q16=>
 opt (aC .i64 q16.1) fun n17=>
 opt (aw q16.2) fun q18=>
 opt (aC .i64 q18.1) fun n19=>
 opt (aO q18.2) fun u20=>
 callK (ρ.call 30 [LV.int .i64 (List.length o0_3 : Int), LV.int .i64 n17, LV.int .i64 n19] μ12) (fun v21 μ22 =>
 opt (aM v21) fun b25=>
 cond (!b25) (
 some (qO (10:Int) μ22)) (
 opt (SR ρ x0 x1 o0_0 o0_1 o0_2 o0_3 μ22) (kS ρ H70 [] [(4,0)]))) (pX CW)) (pX CW):=by kernel_rfl
theorem LN (x4 μ):kB ρ 70 H70 [] (qO x4 μ)=
 some (.ret (LV.int .i64 x4) μ):=by kernel_rfl
theorem Zi (a b μ):aD E ρ 70 [LV.cv (CV.sl a),LV.int .i64 b] μ=
 opt (bm a b) fun c1=>
 eS (LV.cv c1) fun n2 n3 s4 l5=>
 callK (ρ.call 30 [LV.int .i64 n2, LV.int .i64 (0 : Int), LV.int .i64 (24 : Int)] μ) (fun v6 μ7 =>
 opt (aM v6) fun b10=>
 cond (!b10) (
 some (.ret (LV.int .i64 (15:Int)) μ7)) (
 opt (SQ ρ a b n2 n3 s4 l5 μ7) (kB ρ 70 H70 []))) pP:=by kernel_rfl
def On (x0:List CV)(x1 x5 x6:Int):SegD:=⟨H71,[(5,0)],cA 71 [1,1,0,1,0,0],mS [(0,LV.cv (CV.sl x0)),(1,LV.int .i64 x1),(5,LV.int .i64 x5),(6,LV.int .i64 x6)] []⟩
def B4 (x0:List CV)(x1 x5 x6:Int)(μ:Mu):=(On x0 x1 x5 x6).loop ρ μ
def QG (pv:CV)(μ:Mu):St:= .panic pv (mS [] []) μ
def xb (x5:Int)(μ:Mu):St:= .exit 0 (mS [(5,LV.int .i64 x5)] []) μ
theorem J8 (x0 x1 x5 x6 μ):(On x0 x1 x5 x6).rK ρ μ=
 opt (bm x0 x1) fun c1=>
 eS (LV.cv c1) fun n2 n3 s4 l5=>
 cond (decide (x6 < (List.length l5 : Int))) (
 opt (bm x0 x1) fun c6=>
 eS (LV.cv c6) fun n7 n8 s9 l10=>
 opt (bm l10 x6) fun c11=>
 opt (aC .i64 (LV.cv c11)) fun n12=>
 cond (!decide (n12 = (-1 : Int))) (
 callK (ρ.call 71 [LV.cv (CV.sl x0), LV.int .i64 n12] μ) (fun v13 μ14 =>
 opt (aC .i64 v13) fun n17=>
 B4 ρ x0 x1 (IntKind.wrap .i64 (x5+n17)) (IntKind.wrap .i64 (x6+(1:Int))) μ14) (pX QG)) (
 B4 ρ x0 x1 x5 (IntKind.wrap .i64 (x6+(1:Int))) μ)) (
 some (xb x5 μ)):=by kernel_rfl
theorem Mf (x5 μ):kB ρ 71 H71 [.block 0,.seq (cA 71 [1,1,1])] (xb x5 μ)=
 some (.ret (LV.int .i64 x5) μ):=by kernel_rfl
theorem Zj (a b μ):aD E ρ 71 [LV.cv (CV.sl a),LV.int .i64 b] μ=
 opt (B4 ρ a b (1:Int) (0:Int) μ) (kB ρ 71 H71 [.block 0,.seq (cA 71 [1,1,1])]):=by kernel_rfl
theorem Zk (a b c μ):aD E ρ 72 [LV.int .i64 a,LV.int .i64 b,LV.int .i64 c] μ=
 cond (decide (b ≤ a)) (
 some (.ret (LV.bool (decide (a≤c))) μ)) (
 some (.ret (LV.bool false) μ)):=by kernel_rfl
theorem Zl (a_0 a_1 a_2 a_3 μ):aD E ρ 76 [LV.cv (CV.view [CV.int .i64 a_0,CV.int .i64 a_1,CV.str a_2,CV.sl a_3])] μ=
 cond (decide (a_0 = (6 : Int))) (
 cond (decide ((List.length a_3 : Int) = (1 : Int))) (
 opt (bm a_3 (0:Int)) fun c1=>
 ax (dc c1) (
 opt (eU (LV.cv c1)) fun b2=>
 ax (!b2) (
 opt (dq (LV.cv (eM c1))) fun cs3=>
 opt (aw cs3) fun q4=>
 opt (aC .i64 (LV.cv q4.1)) fun n5=>
 opt (aw q4.2) fun q6=>
 opt (aC .i64 (LV.cv q6.1)) fun n7=>
 opt (aw q6.2) fun q8=>
 opt (aN (LV.cv q8.1)) fun s9=>
 opt (aw q8.2) fun q10=>
 opt (bp (LV.cv q10.1)) fun l11=>
 opt (aO q10.2) fun u12=>
 cond (decide (n5 = (0 : Int))) (
 opt (eU (LV.cv c1)) fun b13=>
 ax (!b13) (
 opt (dq (LV.cv (eM c1))) fun cs14=>
 opt (aw cs14) fun q15=>
 opt (aC .i64 (LV.cv q15.1)) fun n16=>
 opt (aw q15.2) fun q17=>
 opt (aC .i64 (LV.cv q17.1)) fun n18=>
 opt (aw q17.2) fun q19=>
 opt (aN (LV.cv q19.1)) fun s20=>
 opt (aw q19.2) fun q21=>
 opt (bp (LV.cv q21.1)) fun l22=>
 opt (aO q21.2) fun u23=>
 callK (ρ.call 123 [LV.int .i64 n18] μ) (fun v24 μ25 =>
 opt (aM v24) fun b28=>
 some (.ret (LV.bool b28) μ25)) pP)) (
 some (.ret (LV.bool false) μ))))) (
 cond (decide (a_0 = (0 : Int))) (
 callK (ρ.call 123 [LV.int .i64 a_1] μ) (fun v29 μ30 =>
 opt (aM v29) fun b33=>
 some (.ret (LV.bool b33) μ30)) pP) (
 some (.ret (LV.bool false) μ)))) (
 cond (decide (a_0 = (7 : Int))) (
 cond (decide ((List.length a_3 : Int) = (1 : Int))) (
 opt (bm a_3 (0:Int)) fun c34=>
 ax (dc c34) (
 opt (eU (LV.cv c34)) fun b35=>
 ax (!b35) (
 opt (dq (LV.cv (eM c34))) fun cs36=>
 opt (aw cs36) fun q37=>
 opt (aC .i64 (LV.cv q37.1)) fun n38=>
 opt (aw q37.2) fun q39=>
 opt (aC .i64 (LV.cv q39.1)) fun n40=>
 opt (aw q39.2) fun q41=>
 opt (aN (LV.cv q41.1)) fun s42=>
 opt (aw q41.2) fun q43=>
 opt (bp (LV.cv q43.1)) fun l44=>
 opt (aO q43.2) fun u45=>
 cond (decide (n38 = (0 : Int))) (
 opt (eU (LV.cv c34)) fun b46=>
 ax (!b46) (
 opt (dq (LV.cv (eM c34))) fun cs47=>
 opt (aw cs47) fun q48=>
 opt (aC .i64 (LV.cv q48.1)) fun n49=>
 opt (aw q48.2) fun q50=>
 opt (aC .i64 (LV.cv q50.1)) fun n51=>
 opt (aw q50.2) fun q52=>
 opt (aN (LV.cv q52.1)) fun s53=>
 opt (aw q52.2) fun q54=>
 opt (bp (LV.cv q54.1)) fun l55=>
 opt (aO q54.2) fun u56=>
 callK (ρ.call 123 [LV.int .i64 n51] μ) (fun v57 μ58 =>
 opt (aM v57) fun b61=>
 some (.ret (LV.bool b61) μ58)) pP)) (
 some (.ret (LV.bool false) μ))))) (
 cond (decide (a_0 = (0 : Int))) (
 callK (ρ.call 123 [LV.int .i64 a_1] μ) (fun v62 μ63 =>
 opt (aM v62) fun b66=>
 some (.ret (LV.bool b66) μ63)) pP) (
 some (.ret (LV.bool false) μ)))) (
 cond (decide (a_0 = (0 : Int))) (
 callK (ρ.call 123 [LV.int .i64 a_1] μ) (fun v67 μ68 =>
 opt (aM v67) fun b71=>
 some (.ret (LV.bool b71) μ68)) pP) (
 some (.ret (LV.bool false) μ)))):=by kernel_rfl
theorem Zm (a μ):aD E ρ 78 [LV.str a] μ=
 callK (ρ.call 55 [LV.cv (CV.agg [CV.int .i64 (0 : Int), CV.int .i64 (0 : Int), CV.str a])] μ) (fun v1 μ2 =>
 opt (aC .i64 v1) fun n5=>
 some (.ret (LV.bool (decide (n5=(0:Int)))) μ2)) pP:=by kernel_rfl
def N6 (x0:List CV)(x1:Int):SegD:=⟨H79,[(4,0)],cA 79 [1,1],mS [(0,LV.cv (CV.sl x0)),(1,LV.int .i64 x1)] []⟩
def xQ (x0:List CV)(x1:Int)(μ:Mu):=(N6 x0 x1).seg ρ μ
def qP (x4:Bool)(μ:Mu):St:= .ret (mS [(4,LV.bool x4)] []) μ
def QA (pv:CV)(μ:Mu):St:= .panic pv (mS [] []) μ
theorem Uo (x0 x1 μ):(N6 x0 x1).sK ρ μ=
 opt (bm x0 x1) fun c13=>
 eS (LV.cv c13) fun n14 n15 s16 l17=>
 cond (decide (n14 = (0 : Int))) (
 opt (bm x0 x1) fun c18=>
 eS (LV.cv c18) fun n19 n20 s21 l22=>
 callK (ρ.call 30 [LV.int .i64 n20, LV.int .i64 (0 : Int), LV.int .i64 (2 : Int)] μ) (fun v23 μ24 =>
 opt (aM v23) fun b27=>
 some (qP b27 μ24)) (pX QA)) (
 some (qP false μ)):=by kernel_rfl
theorem LP (x4 μ):kB ρ 79 H79 [] (qP x4 μ)=
 some (.ret (LV.bool x4) μ):=by kernel_rfl
theorem Zn (a b μ):aD E ρ 79 [LV.cv (CV.sl a),LV.int .i64 b] μ=
 opt (bm a b) fun c1=>
 eS (LV.cv c1) fun n2 n3 s4 l5=>
 cond (decide (n2 = (6 : Int))) (
 opt (bm a b) fun c6=>
 eS (LV.cv c6) fun n7 n8 s9 l10=>
 opt (bm l10 (0:Int)) fun c11=>
 opt (aC .i64 (LV.cv c11)) fun n12=>
 opt (xQ ρ a n12 μ) (kB ρ 79 H79 [])) (
 opt (bm a b) fun c29=>
 eS (LV.cv c29) fun n30 n31 s32 l33=>
 cond (decide (n30 = (7 : Int))) (
 opt (bm a b) fun c34=>
 eS (LV.cv c34) fun n35 n36 s37 l38=>
 opt (bm l38 (0:Int)) fun c39=>
 opt (aC .i64 (LV.cv c39)) fun n40=>
 opt (xQ ρ a n40 μ) (kB ρ 79 H79 [])) (
 opt (xQ ρ a b μ) (kB ρ 79 H79 []))):=by kernel_rfl
def N7 (x0:List UInt8):SegD:=⟨H81,[(2,0)],cA 81 [1,1],mS [(0,LV.str x0)] []⟩
def SS (x0:List UInt8)(μ:Mu):=(N7 x0).seg ρ μ
def Oo (x0:List UInt8)(x19 x20:Int):SegD:=⟨H81,[],cA 81 [1,1,0,1,0,0],mS [(0,LV.str x0),(19,LV.int .i64 x19),(20,LV.int .i64 x20)] []⟩
def xY (x0:List UInt8)(x19 x20:Int)(μ:Mu):=(Oo x0 x19 x20).loop ρ μ
def xc (x2:Bool)(μ:Mu):St:= .ret (mS [(2,LV.bool x2)] []) μ
def C0 (pv:CV)(μ:Mu):St:= .panic pv (mS [] []) μ
def xd (μ:Mu):St:= .exit 0 (mS [] []) μ
def qQ (x2:Bool)(μ:Mu):St:= .ret (mS [(2,LV.bool x2)] []) μ
theorem J9 (x0 x19 x20 μ):(Oo x0 x19 x20).rK ρ μ=
 cond (decide (x20 < x19)) (
 opt (bu x0 x20) fun y7=>
 cond (!decide ((y7.toNat : Int) = (95 : Int))) (
 callK (ρ.call 124 [LV.int .u8 (y7.toNat : Int)] μ) (fun v8 μ9 =>
 opt (aM v8) fun b12=>
 cond (!b12) (
 callK (ρ.call 125 [LV.int .u8 (y7.toNat : Int)] μ9) (fun v13 μ14 =>
 opt (aM v13) fun b17=>
 cond (!b17) (
 some (xc false μ14)) (
 xY ρ x0 x19 (IntKind.wrap .i64 (x20+(1:Int))) μ14)) (pX C0)) (
 xY ρ x0 x19 (IntKind.wrap .i64 (x20+(1:Int))) μ9)) (pX C0)) (
 xY ρ x0 x19 (IntKind.wrap .i64 (x20+(1:Int))) μ)) (
 some (xd μ)):=by kernel_rfl
theorem Mg (x2 μ):kS ρ H81 [.block 0,.seq (cA 81 [1,1,1])] [(2,0)] (xc x2 μ)=
 some (qQ x2 μ):=by kernel_rfl
theorem Mh (μ):kS ρ H81 [.block 0,.seq (cA 81 [1,1,1])] [(2,0)] (xd μ)=
 some (qQ true μ):=by kernel_rfl
theorem Up (x0 μ):(N7 x0).sK ρ μ=
 opt (xY ρ x0 (List.length x0:Int) (0:Int) μ) (kS ρ H81 [.block 0,.seq (cA 81 [1,1,1])] [(2,0)]):=by kernel_rfl
theorem LQ (x2 μ):kB ρ 81 H81 [] (qQ x2 μ)=
 some (.ret (LV.bool x2) μ):=by kernel_rfl
theorem Zo (a μ):aD E ρ 81 [LV.str a] μ=
 cond (decide (a = ([] : List UInt8))) (
 some (.ret (LV.bool false) μ)) (
 cond (decide ((31 : Int) < (List.length a : Int))) (
 some (.ret (LV.bool false) μ)) (
 opt (bu a (0:Int)) fun y1=>
 callK (ρ.call 124 [LV.int .u8 (y1.toNat : Int)] μ) (fun v2 μ3 =>
 opt (aM v2) fun b6=>
 cond (!b6) (
 some (.ret (LV.bool false) μ3)) (
 opt (SS ρ a μ3) (kB ρ 81 H81 []))) pP)):=by kernel_rfl
theorem Zp (a b μ):aD E ρ 82 [LV.cv (CV.sl a),LV.str b] μ=
 callK (ρ.call 126 [LV.cv (CV.sl a), LV.str b] μ) (fun v1 μ2 =>
 opt (aC .i64 v1) fun n5=>
 some (.ret (LV.bool (decide ((0:Int)≤n5))) μ2)) pP:=by kernel_rfl
def N8 (x7:CV)(x8:Int):SegD:=⟨H85,[(4,2),(5,0),(6,0)],cA 85 [1,1,1],mS [(7,LV.cv x7),(8,LV.int .i64 x8)] []⟩
def ST (x7:CV)(x8:Int)(μ:Mu):=(N8 x7 x8).seg ρ μ
def wQ (x4:List CV)(x5 x6:Int)(μ:Mu):St:= .ret (mS [(4,LV.cv (CV.sl x4)),(5,LV.int .i64 x5),(6,LV.int .i64 x6)] []) μ
theorem Uq (x7 x8 μ):(N8 x7 x8).sK ρ μ=
 opt (eU (LV.cv x7)) fun b13=>
 ax (!b13) (
 opt (dq (LV.cv (eM x7))) fun cs14=>
 opt (aw cs14) fun q15=>
 opt (aN (LV.cv q15.1)) fun s16=>
 opt (aw q15.2) fun q17=>
 opt (aM (LV.cv q17.1)) fun b18=>
 opt (aw q17.2) fun q19=>
 opt (bp (LV.cv q19.1)) fun l20=>
 opt (aw q19.2) fun q21=>
 opt (bp (LV.cv q21.1)) fun l22=>
 opt (aO q21.2) fun u23=>
 some (wQ l20 x8 (0:Int) μ)):=by kernel_rfl
theorem LR (x4 x5 x6 μ):kB ρ 85 H85 [] (wQ x4 x5 x6 μ)=
 some (.ret (LV.ltup [LV.cv (CV.sl x4),LV.int .i64 x5,LV.int .i64 x6]) μ):=by kernel_rfl
theorem Zq (a b μ):aD E ρ 85 [LV.str a,LV.bool b] μ=
 callK (ρ.call 127 [LV.str a, LV.bool b] μ) (fun v1 μ2 =>
 opt (aT v1) fun xs5=>
 opt (aw xs5) fun q6=>
 opt (bP q6.1) fun c7=>
 opt (aw q6.2) fun q8=>
 opt (aC .i64 q8.1) fun n9=>
 opt (aw q8.2) fun q10=>
 opt (aC .i64 q10.1) fun n11=>
 opt (aO q10.2) fun u12=>
 cond (!decide (n11 = (0 : Int))) (
 some (.ret (LV.ltup [LV.cv (CV.v (.slice none 0 0)),LV.int .i64 n9,LV.int .i64 n11]) μ2)) (
 opt (ST ρ c7 n9 μ2) (kB ρ 85 H85 []))) pP:=by kernel_rfl
def Oc (x1:List UInt8):SegD:=⟨H90,[],cA 90 [1,0,1,0,1,0,1],mS [(1,LV.str x1)] []⟩
def B1 (x1:List UInt8)(μ:Mu):=(Oc x1).seg ρ μ
def qR (x4:Int)(μ:Mu):St:= .ret (mS [(4,LV.int .i64 x4)] []) μ
def QB (pv:CV)(μ:Mu):St:= .panic pv (mS [] []) μ
def Ja (x0:Int)(x1:List UInt8)(x39:Bool):SegD:=⟨H90,[],cA 90 [1,0,1,0,1,1,1],mS [(0,LV.int .i64 x0),(1,LV.str x1),(39,LV.bool x39)] []⟩
def nu (x0:Int)(x1:List UInt8)(x39:Bool)(μ:Mu):=(Ja x0 x1 x39).seg ρ μ
def iL (x4:Int)(μ:Mu):St:= .ret (mS [(4,LV.int .i64 x4)] []) μ
def Nn (pv:CV)(μ:Mu):St:= .panic pv (mS [] []) μ
def te (μ:Mu):St:= .norm (mS [] []) μ
theorem Us (x1 μ):(Oc x1).sK ρ μ=
 callK (ρ.call 133 [LV.str x1] μ) (fun v7 μ8 =>
 opt (aT v7) fun xs11=>
 opt (aw xs11) fun q12=>
 opt (aC .i64 q12.1) fun n13=>
 opt (aw q12.2) fun q14=>
 opt (bP q14.1) fun c15=>
 opt (aO q14.2) fun u16=>
 cond (decide ((2147483647 : Int) < n13)) (
 some (qR (28:Int) μ8)) (
 some (qR (0:Int) μ8))) (pX QB):=by kernel_rfl
theorem LS (x4 μ):kB ρ 90 H90 [.block 0,.seq (cA 90 [1,1])] (qR x4 μ)=
 some (.ret (LV.int .i64 x4) μ):=by kernel_rfl
theorem Eh (x0 x1 x39 μ):(Ja x0 x1 x39).sK ρ μ=
 cond (x39) (
 callK (ρ.call 134 [LV.str x1] μ) (fun v19 μ20 =>
 opt (aT v19) fun xs23=>
 opt (aw xs23) fun q24=>
 ig q24.1 fun n25 n26 s27=>
 opt (aw q24.2) fun q28=>
 opt (aM q28.1) fun b29=>
 opt (aO q28.2) fun u30=>
 cond (!b29) (
 some (iL (3:Int) μ20)) (
 cond (!decide (n25 = (1 : Int))) (
 some (iL (3:Int) μ20)) (
 cond (!decide (n26 = x0)) (
 some (iL (3:Int) μ20)) (
 cond (!decide (s27 = x1)) (
 some (iL (3:Int) μ20)) (
 some (iL (0:Int) μ20)))))) (pX Nn)) (
 some (te μ)):=by kernel_rfl
theorem Hf (x4 μ):kB ρ 90 H90 [.block 0,.seq (cA 90 [1,1])] (iL x4 μ)=
 some (.ret (LV.int .i64 x4) μ):=by kernel_rfl
theorem Hg (μ):kB ρ 90 H90 [.block 0,.seq (cA 90 [1,1])] (te μ)=
 some (.ret (LV.int .i64 (15:Int)) μ):=by kernel_rfl
theorem Zr (a b μ):aD E ρ 90 [LV.int .i64 a,LV.str b] μ=
 cond (decide (a = (0 : Int))) (
 cond (decide (b = ([] : List UInt8))) (
 some (.ret (LV.int .i64 (3:Int)) μ)) (
 cond (decide ((10 : Int) < (List.length b : Int))) (
 some (.ret (LV.int .i64 (3:Int)) μ)) (
 callK (ρ.call 131 [LV.str b, LV.cv (CV.clo 132 [])] μ) (fun v1 μ2 =>
 opt (aM v1) fun b5=>
 cond (b5) (
 some (.ret (LV.int .i64 (3:Int)) μ2)) (
 opt (bu b (0:Int)) fun y6=>
 cond (decide ((y6.toNat : Int) = (48 : Int))) (
 cond (!decide (b = ([48] : List UInt8))) (
 some (.ret (LV.int .i64 (3:Int)) μ2)) (
 opt (B1 ρ b μ2) (kB ρ 90 H90 [.block 0,.seq (cA 90 [1,1])]))) (
 opt (B1 ρ b μ2) (kB ρ 90 H90 [.block 0,.seq (cA 90 [1,1])])))) pP))) (
 cond (decide (a = (1 : Int))) (
 opt (nu ρ a b (decide (a=(1:Int))) μ) (kB ρ 90 H90 [.block 0,.seq (cA 90 [1,1])])) (
 cond (decide (a = (2 : Int))) (
 opt (nu ρ a b (decide (a=(2:Int))) μ) (kB ρ 90 H90 [.block 0,.seq (cA 90 [1,1])])) (
 cond (decide (a = (5 : Int))) (
 opt (nu ρ a b (decide (a=(5:Int))) μ) (kB ρ 90 H90 [.block 0,.seq (cA 90 [1,1])])) (
 opt (nu ρ a b (decide (a=(6:Int))) μ) (kB ρ 90 H90 [.block 0,.seq (cA 90 [1,1])]))))):=by kernel_rfl
theorem Zs (a μ):aD E ρ 91 [LV.str a] μ=
 cond (!decide (a = ([] : List UInt8))) (
 cond (decide ((List.length a : Int) ≤ (31 : Int))) (
 opt (bu a (0:Int)) fun y1=>
 callK (ρ.call 135 [LV.int .u8 (y1.toNat : Int)] μ) (fun v2 μ3 =>
 opt (aM v2) fun b6=>
 cond (b6) (
 callK (ρ.call 136 [LV.str a] μ3) (fun v7 μ8 =>
 opt (aN v7) fun s11=>
 cond (decide (s11 = a)) (
 callK (ρ.call 131 [LV.str a, LV.cv (CV.clo 137 [])] μ8) (fun v12 μ13 =>
 opt (aM v12) fun b16=>
 some (.ret (LV.bool (!b16)) μ13)) pP) (
 some (.ret (LV.bool false) μ8))) pP) (
 some (.ret (LV.bool false) μ3))) pP) (
 some (.ret (LV.bool false) μ))) (
 some (.ret (LV.bool false) μ)):=by kernel_rfl
theorem Zt (μ):aD E ρ 92 [] μ=
 some (.ret (LV.osl [CV.str ([46,76,84,46]:List UInt8),CV.str ([46,76,69,46]:List UInt8),CV.str ([46,69,81,46]:List UInt8),CV.str ([46,78,69,46]:List UInt8),CV.str ([46,71,69,46]:List UInt8),CV.str ([46,71,84,46]:List UInt8),CV.str ([46,78,79,84,46]:List UInt8),CV.str ([46,65,78,68,46]:List UInt8),CV.str ([46,79,82,46]:List UInt8),CV.str ([46,69,81,86,46]:List UInt8),CV.str ([46,78,69,81,86,46]:List UInt8)]) μ):=by kernel_rfl
theorem Zu (μ):aD E ρ 93 [] μ=
 some (.ret (LV.osl [CV.str ([42,42]:List UInt8),CV.str ([47,47]:List UInt8),CV.str ([61,62]:List UInt8),CV.str ([42]:List UInt8),CV.str ([47]:List UInt8),CV.str ([43]:List UInt8),CV.str ([45]:List UInt8),CV.str ([40]:List UInt8),CV.str ([41]:List UInt8),CV.str ([44]:List UInt8),CV.str ([58]:List UInt8),CV.str ([61]:List UInt8),CV.str ([37]:List UInt8)]) μ):=by kernel_rfl
def Iu (x0:List UInt8):SegD:=⟨sw,[(4,0)],cA 104 [1,1],mS [(0,LV.str x0)] []⟩
def MK (x0:List UInt8)(μ:Mu):=(Iu x0).seg ρ μ
def Jb (x0:List UInt8)(x5:Int):SegD:=⟨sw,[],cA 104 [1,1,0,1,0,0],mS [(0,LV.str x0),(5,LV.int .i64 x5)] []⟩
def CD (x0:List UInt8)(x5:Int)(μ:Mu):=(Jb x0 x5).loop ρ μ
def tf (x4:Bool)(μ:Mu):St:= .ret (mS [(4,LV.bool x4)] []) μ
def No (pv:CV)(μ:Mu):St:= .panic pv (mS [] []) μ
def th (μ:Mu):St:= .exit 0 (mS [] []) μ
def ow (x4:Bool)(μ:Mu):St:= .ret (mS [(4,LV.bool x4)] []) μ
theorem Ek (x0 x5 μ):(Jb x0 x5).rK ρ μ=
 cond (decide (x5 < (List.length x0 : Int))) (
 opt (bu x0 x5) fun y1=>
 callK (ρ.call 30 [LV.int .i64 (IntKind.wrap .i64 (y1.toNat : Int)), LV.int .i64 (32 : Int), LV.int .i64 (126 : Int)] μ) (fun v2 μ3 =>
 opt (aM v2) fun b6=>
 cond (!b6) (
 some (tf false μ3)) (
 CD ρ x0 (IntKind.wrap .i64 (x5+(1:Int))) μ3)) (pX No)) (
 some (th μ)):=by kernel_rfl
theorem Hh (x4 μ):kS ρ sw [.block 0,.seq (cA 104 [1,1,1])] [(4,0)] (tf x4 μ)=
 some (ow x4 μ):=by kernel_rfl
theorem Hi (μ):kS ρ sw [.block 0,.seq (cA 104 [1,1,1])] [(4,0)] (th μ)=
 some (ow true μ):=by kernel_rfl
theorem Rq (x0 μ):(Iu x0).sK ρ μ=
 opt (CD ρ x0 (0:Int) μ) (kS ρ sw [.block 0,.seq (cA 104 [1,1,1])] [(4,0)]):=by kernel_rfl
theorem Gp (x4 μ):kB ρ 104 sw [] (ow x4 μ)=
 some (.ret (LV.bool x4) μ):=by kernel_rfl
theorem W4 (a b μ):aD E ρ 104 [LV.str a,LV.int .i64 b] μ=
 cond (decide (b < (List.length a : Int))) (
 some (.ret (LV.bool false) μ)) (
 opt (MK ρ a μ) (kB ρ 104 sw [])):=by kernel_rfl
theorem W5 (a μ):aD E ρ 105 [LV.int .u8 a] μ=
 cond (decide ((65 : Int) ≤ a)) (
 cond (decide (a ≤ (90 : Int))) (
 some (.ret (LV.bool true) μ)) (
 cond (decide ((97 : Int) ≤ a)) (
 some (.ret (LV.bool (decide (a≤(122:Int)))) μ)) (
 some (.ret (LV.bool false) μ)))) (
 cond (decide ((97 : Int) ≤ a)) (
 some (.ret (LV.bool (decide (a≤(122:Int)))) μ)) (
 some (.ret (LV.bool false) μ))):=by kernel_rfl
theorem W6 (a μ):aD E ρ 106 [LV.int .u8 a] μ=
 cond (decide ((48 : Int) ≤ a)) (
 some (.ret (LV.bool (decide (a≤(57:Int)))) μ)) (
 some (.ret (LV.bool false) μ)):=by kernel_rfl
def Jc (x3:Nat)(x4:Int)(o0:List CV):SegD:=⟨Kt,[(3,0)],cA 107 [1,1,0,1,0,0],mS [(3,LV.lsl 0 0 x3),(4,LV.int .i64 x4)] [Ob.arr 1 o0]⟩
def pI (x3:Nat)(x4:Int)(o0:List CV)(μ:Mu):=(Jc x3 x4 o0).loop ρ μ
def oI (x3:Nat)(o0:List CV)(μ:Mu):St:= .exit 0 (mS [(3,LV.lsl 0 0 x3)] [Ob.arr 1 o0]) μ
theorem El (x3 x4 o0 μ):(Jc x3 x4 o0).rK ρ μ=
 cond (decide (x4 < (x3 : Int))) (
 ax (bW x4 x3) (
 opt (bv E.P 5 (Ob.arr 1 o0) (0+(x4).toNat*1)) fun v1=>
 opt (aC .u8 v1) fun n2=>
 cond (decide ((97 : Int) ≤ n2)) (
 ax (bW x4 x3) (
 opt (bv E.P 5 (Ob.arr 1 o0) (0+(x4).toNat*1)) fun v3=>
 opt (aC .u8 v3) fun n4=>
 cond (decide (n4 ≤ (122 : Int))) (
 ax (bW x4 x3) (
 opt (bv E.P 5 (Ob.arr 1 o0) (0+(x4).toNat*1)) fun v5=>
 opt (aC .u8 v5) fun n6=>
 ax (bW x4 x3) (
 ax (df 1 (CV.int .u8 (IntKind.wrap .u8 (IntKind.wrap .u8 (n6 - (97 : Int)) + (65 : Int)))) && Nat.ble (0 + (x4).toNat * 1 + 1) (List.length o0)) (
 pI ρ x3 (IntKind.wrap .i64 (x4+(1:Int))) (bo o0 (0+(x4).toNat*1) (CV.cells (CV.int .u8 (IntKind.wrap .u8 (IntKind.wrap .u8 (n6-(97:Int))+(65:Int)))))) μ)))) (
 pI ρ x3 (IntKind.wrap .i64 (x4+(1:Int))) o0 μ))) (
 pI ρ x3 (IntKind.wrap .i64 (x4+(1:Int))) o0 μ))) (
 some (oI x3 o0 μ)):=by kernel_rfl
theorem Hj (x3 o0 μ):kB ρ 107 Kt [.block 0,.seq (cA 107 [1,1,1])] (oI x3 o0 μ)=
 ax (Nat.ble (0 + x3) (List.length o0)) (
 opt (bn (List.take x3 (List.drop 0 o0))) fun s7=>
 some (.ret (LV.str s7) μ)):=by kernel_rfl
theorem W7 (a μ):aD E ρ 107 [LV.str a] μ=
 ax (bC (List.length a)) (
 opt (pI ρ (List.length a) (0:Int) (bz a) μ) (kB ρ 107 Kt [.block 0,.seq (cA 107 [1,1,1])])):=by kernel_rfl
def Jd (x0:List UInt8)(x1 x5 x6:Int)(x7:Bool)(x30:List CV)(x31 x32 o0_0 o0_1:Int)(o0_2:List UInt8)(o0_3 o0_4:Int):SegD:=⟨bw,[(0,0),(1,0),(4,0),(5,0),(6,0),(7,0)],cA 108 [1,1,1,1,0,1,0,0],mS [(0,LV.str x0),(1,LV.int .i64 x1),(4,LV.loc 0 0),(5,LV.int .i64 x5),(6,LV.int .i64 x6),(7,LV.bool x7),(30,LV.cv (CV.sl x30)),(31,LV.int .i64 x31),(32,LV.int .i64 x32)] [Ob.cells [LV.int .i64 o0_0,LV.int .i64 o0_1,LV.str o0_2,LV.int .i64 o0_3,LV.int .i64 o0_4]]⟩
def sx (x0:List UInt8)(x1 x5 x6:Int)(x7:Bool)(x30:List CV)(x31 x32 o0_0 o0_1:Int)(o0_2:List UInt8)(o0_3 o0_4:Int)(μ:Mu):=(Jd x0 x1 x5 x6 x7 x30 x31 x32 o0_0 o0_1 o0_2 o0_3 o0_4).loop ρ μ
def Np (pv:CV)(μ:Mu):St:= .panic pv (mS [] []) μ
def ti (x0:List UInt8)(x1 x5 x6:Int)(x7:Bool)(o0_0 o0_1:Int)(o0_2:List UInt8)(o0_3 o0_4:Int)(μ:Mu):St:= .exit 0 (mS [(0,LV.str x0),(1,LV.int .i64 x1),(4,LV.loc 0 0),(5,LV.int .i64 x5),(6,LV.int .i64 x6),(7,LV.bool x7)] [Ob.cells [LV.int .i64 o0_0,LV.int .i64 o0_1,LV.str o0_2,LV.int .i64 o0_3,LV.int .i64 o0_4]]) μ
def Di (x0:List UInt8)(x1 x5 x6:Int)(x7 x10:Bool)(x11 o0_0 o0_1:Int)(o0_2:List UInt8)(o0_3 o0_4:Int):SegD:=⟨bw,[(4,0)],cA 108 [1,1,1,1,1,1,1],mS [(0,LV.str x0),(1,LV.int .i64 x1),(4,LV.loc 0 0),(5,LV.int .i64 x5),(6,LV.int .i64 x6),(7,LV.bool x7),(10,LV.bool x10),(11,LV.int .i64 x11)] [Ob.cells [LV.int .i64 o0_0,LV.int .i64 o0_1,LV.str o0_2,LV.int .i64 o0_3,LV.int .i64 o0_4]]⟩
def nj (x0:List UInt8)(x1 x5 x6:Int)(x7 x10:Bool)(x11 o0_0 o0_1:Int)(o0_2:List UInt8)(o0_3 o0_4:Int)(μ:Mu):=(Di x0 x1 x5 x6 x7 x10 x11 o0_0 o0_1 o0_2 o0_3 o0_4).seg ρ μ
def Dj (x0:List UInt8)(x1 x5 x6:Int)(x10:Bool)(x11 x12 x13:Int)(x14:Bool)(x15 o0_0 o0_1:Int)(o0_2:List UInt8)(o0_3 o0_4:Int):SegD:=⟨bw,[(0,0),(1,0),(4,0),(5,0),(6,0),(10,0),(11,0),(12,0),(13,0),(14,0)],cA 108 [1,1,1,1,1,1,1,1,1,0,1,0,1,1],mS [(0,LV.str x0),(1,LV.int .i64 x1),(4,LV.loc 0 0),(5,LV.int .i64 x5),(6,LV.int .i64 x6),(10,LV.bool x10),(11,LV.int .i64 x11),(12,LV.int .i64 x12),(13,LV.int .i64 x13),(14,LV.bool x14),(15,LV.int .i64 x15)] [Ob.cells [LV.int .i64 o0_0,LV.int .i64 o0_1,LV.str o0_2,LV.int .i64 o0_3,LV.int .i64 o0_4]]⟩
def cE (x0:List UInt8)(x1 x5 x6:Int)(x10:Bool)(x11 x12 x13:Int)(x14:Bool)(x15 o0_0 o0_1:Int)(o0_2:List UInt8)(o0_3 o0_4:Int)(μ:Mu):=(Dj x0 x1 x5 x6 x10 x11 x12 x13 x14 x15 o0_0 o0_1 o0_2 o0_3 o0_4).seg ρ μ
def qx (o0_0 o0_1:Int)(o0_2:List UInt8)(o0_3 o0_4:Int)(μ:Mu):St:= .ret (mS [(4,LV.loc 0 0)] [Ob.cells [LV.int .i64 o0_0,LV.int .i64 o0_1,LV.str o0_2,LV.int .i64 o0_3,LV.int .i64 o0_4]]) μ
def Dk (x0:List UInt8)(x1 x5 x6:Int)(x10:Bool)(x11 x12 x15 x16 o0_0 o0_1:Int)(o0_2:List UInt8)(o0_3 o0_4:Int):SegD:=⟨bw,[(0,0),(1,0),(4,0),(5,0),(6,0),(10,0),(11,0),(12,0),(13,0),(14,0)],cA 108 [1,1,1,1,1,1,1,1,1,0,1,0,1,1,1,1,0,1],mS [(0,LV.str x0),(1,LV.int .i64 x1),(4,LV.loc 0 0),(5,LV.int .i64 x5),(6,LV.int .i64 x6),(10,LV.bool x10),(11,LV.int .i64 x11),(12,LV.int .i64 x12),(15,LV.int .i64 x15),(16,LV.int .i64 x16)] [Ob.cells [LV.int .i64 o0_0,LV.int .i64 o0_1,LV.str o0_2,LV.int .i64 o0_3,LV.int .i64 o0_4]]⟩
def Ii (x0:List UInt8)(x1 x5 x6:Int)(x10:Bool)(x11 x12 x15 x16 o0_0 o0_1:Int)(o0_2:List UInt8)(o0_3 o0_4:Int)(μ:Mu):=(Dk x0 x1 x5 x6 x10 x11 x12 x15 x16 o0_0 o0_1 o0_2 o0_3 o0_4).seg ρ μ
def Dl (x0:List UInt8)(x1 x5 x6:Int)(x10:Bool)(x11 x12 x13:Int)(x14:Bool)(x15 x16 o0_0 o0_1:Int)(o0_2:List UInt8)(o0_3 o0_4:Int):SegD:=⟨bw,[(0,0),(1,0),(4,0),(5,0),(6,0),(10,0),(11,0),(12,0),(13,0),(14,0)],cA 108 [1,1,1,1,1,1,1,1,1,0,1,0,1,1,1,1,0,1,1,1,1],mS [(0,LV.str x0),(1,LV.int .i64 x1),(4,LV.loc 0 0),(5,LV.int .i64 x5),(6,LV.int .i64 x6),(10,LV.bool x10),(11,LV.int .i64 x11),(12,LV.int .i64 x12),(13,LV.int .i64 x13),(14,LV.bool x14),(15,LV.int .i64 x15),(16,LV.int .i64 x16)] [Ob.cells [LV.int .i64 o0_0,LV.int .i64 o0_1,LV.str o0_2,LV.int .i64 o0_3,LV.int .i64 o0_4]]⟩
def zT (x0:List UInt8)(x1 x5 x6:Int)(x10:Bool)(x11 x12 x13:Int)(x14:Bool)(x15 x16 o0_0 o0_1:Int)(o0_2:List UInt8)(o0_3 o0_4:Int)(μ:Mu):=(Dl x0 x1 x5 x6 x10 x11 x12 x13 x14 x15 x16 o0_0 o0_1 o0_2 o0_3 o0_4).seg ρ μ
def kr (x0:List UInt8)(x1 x5 x6:Int)(x10:Bool)(x11 x12 x13:Int)(x14:Bool)(o0_0 o0_1:Int)(o0_2:List UInt8)(o0_3 o0_4:Int)(μ:Mu):St:= .norm (mS [(0,LV.str x0),(1,LV.int .i64 x1),(4,LV.loc 0 0),(5,LV.int .i64 x5),(6,LV.int .i64 x6),(10,LV.bool x10),(11,LV.int .i64 x11),(12,LV.int .i64 x12),(13,LV.int .i64 x13),(14,LV.bool x14)] [Ob.cells [LV.int .i64 o0_0,LV.int .i64 o0_1,LV.str o0_2,LV.int .i64 o0_3,LV.int .i64 o0_4]]) μ
def qy (x0:List UInt8)(x1 x5 x6:Int)(x10:Bool)(x11 x12 x13:Int)(x14:Bool)(o0_0 o0_1:Int)(o0_2:List UInt8)(o0_3 o0_4:Int)(μ:Mu):St:= .norm (mS [(0,LV.str x0),(1,LV.int .i64 x1),(4,LV.loc 0 0),(5,LV.int .i64 x5),(6,LV.int .i64 x6),(10,LV.bool x10),(11,LV.int .i64 x11),(12,LV.int .i64 x12),(13,LV.int .i64 x13),(14,LV.bool x14)] [Ob.cells [LV.int .i64 o0_0,LV.int .i64 o0_1,LV.str o0_2,LV.int .i64 o0_3,LV.int .i64 o0_4]]) μ
def KK (pv:CV)(μ:Mu):St:= .panic pv (mS [] []) μ
def kq (x0:List UInt8)(x1 x5 x6:Int)(x10:Bool)(x11 x12 x13:Int)(x14:Bool)(o0_0 o0_1:Int)(o0_2:List UInt8)(o0_3 o0_4:Int)(μ:Mu):St:= .norm (mS [(0,LV.str x0),(1,LV.int .i64 x1),(4,LV.loc 0 0),(5,LV.int .i64 x5),(6,LV.int .i64 x6),(10,LV.bool x10),(11,LV.int .i64 x11),(12,LV.int .i64 x12),(13,LV.int .i64 x13),(14,LV.bool x14)] [Ob.cells [LV.int .i64 o0_0,LV.int .i64 o0_1,LV.str o0_2,LV.int .i64 o0_3,LV.int .i64 o0_4]]) μ
def KJ (pv:CV)(μ:Mu):St:= .panic pv (mS [] []) μ
def fR (o0_0 o0_1:Int)(o0_2:List UInt8)(o0_3 o0_4:Int)(μ:Mu):St:= .ret (mS [(4,LV.loc 0 0)] [Ob.cells [LV.int .i64 o0_0,LV.int .i64 o0_1,LV.str o0_2,LV.int .i64 o0_3,LV.int .i64 o0_4]]) μ
def Dm (x0:List UInt8)(x1 x5 x6:Int)(x10:Bool)(x11 x12 x13:Int)(x14:Bool)(o0_0 o0_1:Int)(o0_2:List UInt8)(o0_3 o0_4:Int):SegD:=⟨bw,[(4,0)],cA 108 [1,1,1,1,1,1,1,1,1,1],mS [(0,LV.str x0),(1,LV.int .i64 x1),(4,LV.loc 0 0),(5,LV.int .i64 x5),(6,LV.int .i64 x6),(10,LV.bool x10),(11,LV.int .i64 x11),(12,LV.int .i64 x12),(13,LV.int .i64 x13),(14,LV.bool x14)] [Ob.cells [LV.int .i64 o0_0,LV.int .i64 o0_1,LV.str o0_2,LV.int .i64 o0_3,LV.int .i64 o0_4]]⟩
def nk (x0:List UInt8)(x1 x5 x6:Int)(x10:Bool)(x11 x12 x13:Int)(x14:Bool)(o0_0 o0_1:Int)(o0_2:List UInt8)(o0_3 o0_4:Int)(μ:Mu):=(Dm x0 x1 x5 x6 x10 x11 x12 x13 x14 o0_0 o0_1 o0_2 o0_3 o0_4).seg ρ μ
def ja (o0_0 o0_1:Int)(o0_2:List UInt8)(o0_3 o0_4:Int)(μ:Mu):St:= .ret (mS [(4,LV.loc 0 0)] [Ob.cells [LV.int .i64 o0_0,LV.int .i64 o0_1,LV.str o0_2,LV.int .i64 o0_3,LV.int .i64 o0_4]]) μ
def Dn (x0:List UInt8)(x1 x5 x6 o0_0 o0_1:Int)(o0_2:List UInt8)(o0_3 o0_4:Int):SegD:=⟨bw,[(0,0),(1,0),(4,0),(5,0),(6,0),(10,0),(11,0),(12,0),(13,0)],cA 108 [1,1,1,1,1,1,1,1,1,1,0,1,0,1],mS [(0,LV.str x0),(1,LV.int .i64 x1),(4,LV.loc 0 0),(5,LV.int .i64 x5),(6,LV.int .i64 x6)] [Ob.cells [LV.int .i64 o0_0,LV.int .i64 o0_1,LV.str o0_2,LV.int .i64 o0_3,LV.int .i64 o0_4]]⟩
def Ij (x0:List UInt8)(x1 x5 x6 o0_0 o0_1:Int)(o0_2:List UInt8)(o0_3 o0_4:Int)(μ:Mu):=(Dn x0 x1 x5 x6 o0_0 o0_1 o0_2 o0_3 o0_4).seg ρ μ
def ku (o0_0 o0_1:Int)(o0_2:List UInt8)(o0_3 o0_4:Int)(μ:Mu):St:= .ret (mS [(4,LV.loc 0 0)] [Ob.cells [LV.int .i64 o0_0,LV.int .i64 o0_1,LV.str o0_2,LV.int .i64 o0_3,LV.int .i64 o0_4]]) μ
def KL (pv:CV)(μ:Mu):St:= .panic pv (mS [] []) μ
def Do (x0:List UInt8)(x1 x5 x6:Int)(x10:Bool)(x11 x12 x13 o0_0 o0_1:Int)(o0_2:List UInt8)(o0_3 o0_4:Int):SegD:=⟨bw,[(4,0)],cA 108 [1,1,1,1,1,1,1,1,1,1,1],mS [(0,LV.str x0),(1,LV.int .i64 x1),(4,LV.loc 0 0),(5,LV.int .i64 x5),(6,LV.int .i64 x6),(10,LV.bool x10),(11,LV.int .i64 x11),(12,LV.int .i64 x12),(13,LV.int .i64 x13)] [Ob.cells [LV.int .i64 o0_0,LV.int .i64 o0_1,LV.str o0_2,LV.int .i64 o0_3,LV.int .i64 o0_4]]⟩
def ve (x0:List UInt8)(x1 x5 x6:Int)(x10:Bool)(x11 x12 x13 o0_0 o0_1:Int)(o0_2:List UInt8)(o0_3 o0_4:Int)(μ:Mu):=(Do x0 x1 x5 x6 x10 x11 x12 x13 o0_0 o0_1 o0_2 o0_3 o0_4).seg ρ μ
def Dp (x0:List UInt8)(x1 x5 x6 x12 x13:Int)(x18:List UInt8)(o0_0 o0_1:Int)(o0_2:List UInt8)(o0_3 o0_4:Int):SegD:=⟨bw,[(4,0)],cA 108 [1,1,1,1,1,1,1,1,1,1,1,1,1],mS [(0,LV.str x0),(1,LV.int .i64 x1),(4,LV.loc 0 0),(5,LV.int .i64 x5),(6,LV.int .i64 x6),(12,LV.int .i64 x12),(13,LV.int .i64 x13),(18,LV.str x18)] [Ob.cells [LV.int .i64 o0_0,LV.int .i64 o0_1,LV.str o0_2,LV.int .i64 o0_3,LV.int .i64 o0_4]]⟩
def zU (x0:List UInt8)(x1 x5 x6 x12 x13:Int)(x18:List UInt8)(o0_0 o0_1:Int)(o0_2:List UInt8)(o0_3 o0_4:Int)(μ:Mu):=(Dp x0 x1 x5 x6 x12 x13 x18 o0_0 o0_1 o0_2 o0_3 o0_4).seg ρ μ
def kw (o0_0 o0_1:Int)(o0_2:List UInt8)(o0_3 o0_4:Int)(μ:Mu):St:= .ret (mS [(4,LV.loc 0 0)] [Ob.cells [LV.int .i64 o0_0,LV.int .i64 o0_1,LV.str o0_2,LV.int .i64 o0_3,LV.int .i64 o0_4]]) μ
def Dq (x6 x12 x13:Int)(x19 x20:List UInt8)(o0_0 o0_1:Int)(o0_2:List UInt8)(o0_3 o0_4:Int):SegD:=⟨bw,[(4,0)],cA 108 [1,1,1,1,1,1,1,1,1,1,1,1,1,1,1],mS [(4,LV.loc 0 0),(6,LV.int .i64 x6),(12,LV.int .i64 x12),(13,LV.int .i64 x13),(19,LV.str x19),(20,LV.str x20)] [Ob.cells [LV.int .i64 o0_0,LV.int .i64 o0_1,LV.str o0_2,LV.int .i64 o0_3,LV.int .i64 o0_4]]⟩
def Ik (x6 x12 x13:Int)(x19 x20:List UInt8)(o0_0 o0_1:Int)(o0_2:List UInt8)(o0_3 o0_4:Int)(μ:Mu):=(Dq x6 x12 x13 x19 x20 o0_0 o0_1 o0_2 o0_3 o0_4).seg ρ μ
def kx (o0_0 o0_1:Int)(o0_2:List UInt8)(o0_3 o0_4:Int)(μ:Mu):St:= .ret (mS [(4,LV.loc 0 0)] [Ob.cells [LV.int .i64 o0_0,LV.int .i64 o0_1,LV.str o0_2,LV.int .i64 o0_3,LV.int .i64 o0_4]]) μ
def yb (pv:CV)(μ:Mu):St:= .panic pv (mS [] []) μ
def jb (pv:CV)(μ:Mu):St:= .panic pv (mS [] []) μ
def mV (o0_0 o0_1:Int)(o0_2:List UInt8)(o0_3 o0_4:Int)(μ:Mu):St:= .ret (mS [(4,LV.loc 0 0)] [Ob.cells [LV.int .i64 o0_0,LV.int .i64 o0_1,LV.str o0_2,LV.int .i64 o0_3,LV.int .i64 o0_4]]) μ
theorem Em (x0 x1 x5 x6 x7 x30 x31 x32 o0_0 o0_1 o0_2 o0_3 o0_4 μ):(Jd x0 x1 x5 x6 x7 x30 x31 x32 o0_0 o0_1 o0_2 o0_3 o0_4).rK ρ μ=
 cond (decide (x32 < x31)) (
 opt (bm x30 x32) fun c11=>
 opt (aN (LV.cv c11)) fun s12=>
 cond (x7) (
 sx ρ x0 x1 x5 x6 true x30 x31 (IntKind.wrap .i64 (x32+(1:Int))) o0_0 o0_1 o0_2 o0_3 o0_4 μ) (
 cond (decide ((0 : Int) < x5)) (
 callK (ρ.call 110 [LV.str x0, LV.int .i64 x6, LV.str s12] μ) (fun v13 μ14 =>
 opt (aM v13) fun b17=>
 sx ρ x0 x1 x5 x6 b17 x30 x31 (IntKind.wrap .i64 (x32+(1:Int))) o0_0 o0_1 o0_2 o0_3 o0_4 μ14) (pX Np)) (
 sx ρ x0 x1 x5 x6 false x30 x31 (IntKind.wrap .i64 (x32+(1:Int))) o0_0 o0_1 o0_2 o0_3 o0_4 μ))) (
 some (ti x0 x1 x5 x6 x7 o0_0 o0_1 o0_2 o0_3 o0_4 μ)):=by kernel_rfl
theorem Pu (x0 x1 x5 x6 x10 x11 x12 x13 x14 x15 x16 o0_0 o0_1 o0_2 o0_3 o0_4 μ):(Dl x0 x1 x5 x6 x10 x11 x12 x13 x14 x15 x16 o0_0 o0_1 o0_2 o0_3 o0_4).sK ρ μ=
 opt (bu x0 x6) fun y38=>
 cond (decide ((y38.toNat : Int) = (68 : Int))) (
 some (kr x0 x1 x5 (IntKind.wrap .i64 (x15+x16)) x10 x11 (2:Int) x13 x14 o0_0 o0_1 o0_2 o0_3 o0_4 μ)) (
 opt (bu x0 x6) fun y39=>
 cond (decide ((y39.toNat : Int) = (100 : Int))) (
 some (kr x0 x1 x5 (IntKind.wrap .i64 (x15+x16)) x10 x11 (2:Int) x13 x14 o0_0 o0_1 o0_2 o0_3 o0_4 μ)) (
 some (kr x0 x1 x5 (IntKind.wrap .i64 (x15+x16)) x10 x11 x12 x13 x14 o0_0 o0_1 o0_2 o0_3 o0_4 μ))):=by kernel_rfl
theorem uz (x0 x1 x5 x6 x10 x11 x12 x13 x14 o0_0 o0_1 o0_2 o0_3 o0_4 μ):kS ρ bw [] [(0,0),(1,0),(4,0),(5,0),(6,0),(10,0),(11,0),(12,0),(13,0),(14,0)] (kr x0 x1 x5 x6 x10 x11 x12 x13 x14 o0_0 o0_1 o0_2 o0_3 o0_4 μ)=
 some (qy x0 x1 x5 x6 x10 x11 x12 x13 x14 o0_0 o0_1 o0_2 o0_3 o0_4 μ):=by kernel_rfl
theorem Pt (x0 x1 x5 x6 x10 x11 x12 x15 x16 o0_0 o0_1 o0_2 o0_3 o0_4 μ):(Dk x0 x1 x5 x6 x10 x11 x12 x15 x16 o0_0 o0_1 o0_2 o0_3 o0_4).sK ρ μ=
 opt (dB x0 x15 (IntKind.wrap .i64 (x15+x16))) fun s31=>
 callK (ρ.call 143 [LV.str s31] μ) (fun v32 μ33 =>
 opt (aC .i64 v32) fun n36=>
 opt (bu x0 (IntKind.wrap .i64 (x15-(1:Int)))) fun y37=>
 cond (decide ((y37.toNat : Int) = (45 : Int))) (
 opt (zT ρ x0 x1 x5 x6 x10 x11 x12 (IntKind.wrap .i64 (0-n36)) true x15 x16 o0_0 o0_1 o0_2 o0_3 o0_4 μ33) (kS ρ bw [] [(0,0),(1,0),(4,0),(5,0),(6,0),(10,0),(11,0),(12,0),(13,0),(14,0)])) (
 opt (zT ρ x0 x1 x5 x6 x10 x11 x12 n36 true x15 x16 o0_0 o0_1 o0_2 o0_3 o0_4 μ33) (kS ρ bw [] [(0,0),(1,0),(4,0),(5,0),(6,0),(10,0),(11,0),(12,0),(13,0),(14,0)]))) (pX KK):=by kernel_rfl
theorem EJ (x0 x1 x5 x6 x10 x11 x12 x13 x14 o0_0 o0_1 o0_2 o0_3 o0_4 μ):kS ρ bw [] [(0,0),(1,0),(4,0),(5,0),(6,0),(10,0),(11,0),(12,0),(13,0),(14,0)] (qy x0 x1 x5 x6 x10 x11 x12 x13 x14 o0_0 o0_1 o0_2 o0_3 o0_4 μ)=
 some (kq x0 x1 x5 x6 x10 x11 x12 x13 x14 o0_0 o0_1 o0_2 o0_3 o0_4 μ):=by kernel_rfl
theorem Ps (x0 x1 x5 x6 x10 x11 x12 x13 x14 x15 o0_0 o0_1 o0_2 o0_3 o0_4 μ):(Dj x0 x1 x5 x6 x10 x11 x12 x13 x14 x15 o0_0 o0_1 o0_2 o0_3 o0_4).sK ρ μ=
 callK (ρ.call 142 [LV.str x0, LV.int .i64 x15] μ) (fun v26 μ27 =>
 opt (aC .i64 v26) fun n30=>
 cond (decide ((0 : Int) < n30)) (
 cond (decide ((3 : Int) < n30)) (
 some (qx (0:Int) (0:Int) ([]:List UInt8) (0:Int) (7:Int) μ27)) (
 opt (Ii ρ x0 x1 x5 x6 x10 x11 x12 x15 n30 o0_0 o0_1 o0_2 o0_3 o0_4 μ27) (kS ρ bw [] [(0,0),(1,0),(4,0),(5,0),(6,0),(10,0),(11,0),(12,0),(13,0),(14,0)]))) (
 some (kq x0 x1 x5 x6 x10 x11 x12 x13 x14 o0_0 o0_1 o0_2 o0_3 o0_4 μ27))) (pX KJ):=by kernel_rfl
theorem EI (o0_0 o0_1 o0_2 o0_3 o0_4 μ):kS ρ bw [.seq (cA 108 [1,1,1,1,1,1,1,1,1,1])] [(4,0)] (qx o0_0 o0_1 o0_2 o0_3 o0_4 μ)=
 some (fR o0_0 o0_1 o0_2 o0_3 o0_4 μ):=by kernel_rfl
theorem Pw (x0 x1 x5 x6 o0_0 o0_1 o0_2 o0_3 o0_4 μ):(Dn x0 x1 x5 x6 o0_0 o0_1 o0_2 o0_3 o0_4).sK ρ μ=
 opt (dB x0 x1 (IntKind.wrap .i64 (x1+x5))) fun s43=>
 callK (ρ.call 144 [LV.str s43] μ) (fun v44 μ45 =>
 opt (aN v44) fun s48=>
 cond (decide ((List.length s48 : Int) = (10 : Int))) (
 cond (!(Op.bytesLess s48 ([50, 49, 52, 55, 52, 56, 51, 54, 52, 55] : List UInt8) || decide (s48 = ([50, 49, 52, 55, 52, 56, 51, 54, 52, 55] : List UInt8)))) (
 some (ku (0:Int) (0:Int) ([]:List UInt8) (0:Int) (28:Int) μ45)) (
 some (ku (1:Int) (0:Int) s48 x6 (0:Int) μ45))) (
 some (ku (1:Int) (0:Int) s48 x6 (0:Int) μ45))) (pX KL):=by kernel_rfl
theorem uB (o0_0 o0_1 o0_2 o0_3 o0_4 μ):kS ρ bw [.seq (cA 108 [1,1,1,1,1,1,1,1,1,1,1])] [(4,0)] (ku o0_0 o0_1 o0_2 o0_3 o0_4 μ)=
 some (ja o0_0 o0_1 o0_2 o0_3 o0_4 μ):=by kernel_rfl
theorem Py (x6 x12 x13 x19 x20 o0_0 o0_1 o0_2 o0_3 o0_4 μ):(Dq x6 x12 x13 x19 x20 o0_0 o0_1 o0_2 o0_3 o0_4).sK ρ μ=
 ax (bC (List.length x19 + List.length ([46] : List UInt8))) (
 ax (bC (List.length (x19 ++ ([46] : List UInt8)) + List.length x20)) (
 cond (decide (x12 = (2 : Int))) (
 ax (bC (List.length ((x19 ++ ([46] : List UInt8)) ++ x20) + List.length ([68] : List UInt8))) (
 callK (ρ.call 148 [LV.int .i64 x13] μ) (fun v82 μ83 =>
 opt (aN v82) fun s86=>
 ax (bC (List.length (((x19 ++ ([46] : List UInt8)) ++ x20) ++ ([68] : List UInt8)) + List.length s86)) (
 some (kx (1:Int) x12 ((((x19++([46]:List UInt8))++x20)++([68]:List UInt8))++s86) x6 (0:Int) μ83))) (pX yb))) (
 cond (!decide (x13 = (0 : Int))) (
 ax (bC (List.length ((x19 ++ ([46] : List UInt8)) ++ x20) + List.length ([69] : List UInt8))) (
 callK (ρ.call 148 [LV.int .i64 x13] μ) (fun v87 μ88 =>
 opt (aN v87) fun s91=>
 ax (bC (List.length (((x19 ++ ([46] : List UInt8)) ++ x20) ++ ([69] : List UInt8)) + List.length s91)) (
 some (kx (1:Int) x12 ((((x19++([46]:List UInt8))++x20)++([69]:List UInt8))++s91) x6 (0:Int) μ88))) (pX yb))) (
 some (kx (1:Int) x12 ((x19++([46]:List UInt8))++x20) x6 (0:Int) μ))))):=by kernel_rfl
theorem EK (o0_0 o0_1 o0_2 o0_3 o0_4 μ):kS ρ bw [] [(4,0)] (kx o0_0 o0_1 o0_2 o0_3 o0_4 μ)=
 some (kw o0_0 o0_1 o0_2 o0_3 o0_4 μ):=by kernel_rfl
theorem Px (x0 x1 x5 x6 x12 x13 x18 o0_0 o0_1 o0_2 o0_3 o0_4 μ):(Dp x0 x1 x5 x6 x12 x13 x18 o0_0 o0_1 o0_2 o0_3 o0_4).sK ρ μ=
 opt (dB x0 x1 (IntKind.wrap .i64 (x1+x5))) fun s51=>
 callK (ρ.call 145 [LV.str s51] μ) (fun v52 μ53 =>
 opt (aN v52) fun s56=>
 callK (ρ.call 144 [LV.str s56] μ53) (fun v57 μ58 =>
 opt (aN v57) fun s61=>
 callK (ρ.call 145 [LV.str x18] μ58) (fun v62 μ63 =>
 opt (aN v62) fun s66=>
 callK (ρ.call 146 [LV.str s66] μ63) (fun v67 μ68 =>
 opt (aN v67) fun s71=>
 callK (ρ.call 147 [LV.str s61] μ68) (fun v72 μ73 =>
 opt (aC .i64 v72) fun n76=>
 callK (ρ.call 147 [LV.str s71] μ73) (fun v77 μ78 =>
 opt (aC .i64 v77) fun n81=>
 cond (decide ((30 : Int) < IntKind.wrap .i64 (n76 + n81))) (
 some (kw (0:Int) (0:Int) ([]:List UInt8) (0:Int) (7:Int) μ78)) (
 opt (Ik ρ x6 x12 x13 s61 s71 o0_0 o0_1 o0_2 o0_3 o0_4 μ78) (kS ρ bw [] [(4,0)]))) (pX jb)) (pX jb)) (pX jb)) (pX jb)) (pX jb)) (pX jb):=by kernel_rfl
theorem uD (o0_0 o0_1 o0_2 o0_3 o0_4 μ):kS ρ bw [] [(4,0)] (kw o0_0 o0_1 o0_2 o0_3 o0_4 μ)=
 some (mV o0_0 o0_1 o0_2 o0_3 o0_4 μ):=by kernel_rfl
theorem Bm (x0 x1 x5 x6 x10 x11 x12 x13 o0_0 o0_1 o0_2 o0_3 o0_4 μ):(Do x0 x1 x5 x6 x10 x11 x12 x13 o0_0 o0_1 o0_2 o0_3 o0_4).sK ρ μ=
 cond (x10) (
 opt (dB x0 (IntKind.wrap .i64 (IntKind.wrap .i64 (x1+x5)+(1:Int))) (IntKind.wrap .i64 (IntKind.wrap .i64 (IntKind.wrap .i64 (x1+x5)+(1:Int))+x11))) fun s50=>
 opt (zU ρ x0 x1 x5 x6 x12 x13 s50 o0_0 o0_1 o0_2 o0_3 o0_4 μ) (kS ρ bw [] [(4,0)])) (
 opt (zU ρ x0 x1 x5 x6 x12 x13 ([]:List UInt8) o0_0 o0_1 o0_2 o0_3 o0_4 μ) (kS ρ bw [] [(4,0)])):=by kernel_rfl
theorem uC (o0_0 o0_1 o0_2 o0_3 o0_4 μ):kS ρ bw [] [(4,0)] (mV o0_0 o0_1 o0_2 o0_3 o0_4 μ)=
 some (ja o0_0 o0_1 o0_2 o0_3 o0_4 μ):=by kernel_rfl
theorem Pv (x0 x1 x5 x6 x10 x11 x12 x13 x14 o0_0 o0_1 o0_2 o0_3 o0_4 μ):(Dm x0 x1 x5 x6 x10 x11 x12 x13 x14 o0_0 o0_1 o0_2 o0_3 o0_4).sK ρ μ=
 cond (!x10) (
 cond (!x14) (
 cond (decide ((10 : Int) < x5)) (
 some (ja (0:Int) (0:Int) ([]:List UInt8) (0:Int) (28:Int) μ)) (
 opt (Ij ρ x0 x1 x5 x6 o0_0 o0_1 o0_2 o0_3 o0_4 μ) (kS ρ bw [.seq (cA 108 [1,1,1,1,1,1,1,1,1,1,1])] [(4,0)]))) (
 opt (ve ρ x0 x1 x5 x6 x10 x11 x12 x13 o0_0 o0_1 o0_2 o0_3 o0_4 μ) (kS ρ bw [] [(4,0)]))) (
 opt (ve ρ x0 x1 x5 x6 x10 x11 x12 x13 o0_0 o0_1 o0_2 o0_3 o0_4 μ) (kS ρ bw [] [(4,0)])):=by kernel_rfl
theorem uA (o0_0 o0_1 o0_2 o0_3 o0_4 μ):kS ρ bw [] [(4,0)] (ja o0_0 o0_1 o0_2 o0_3 o0_4 μ)=
 some (fR o0_0 o0_1 o0_2 o0_3 o0_4 μ):=by kernel_rfl
theorem uy (x0 x1 x5 x6 x10 x11 x12 x13 x14 o0_0 o0_1 o0_2 o0_3 o0_4 μ):kS ρ bw [.seq (cA 108 [1,1,1,1,1,1,1,1,1,1])] [(4,0)] (kq x0 x1 x5 x6 x10 x11 x12 x13 x14 o0_0 o0_1 o0_2 o0_3 o0_4 μ)=
 opt (nk ρ x0 x1 x5 x6 x10 x11 x12 x13 x14 o0_0 o0_1 o0_2 o0_3 o0_4 μ) (kS ρ bw [] [(4,0)]):=by kernel_rfl
theorem Pr (x0 x1 x5 x6 x7 x10 x11 o0_0 o0_1 o0_2 o0_3 o0_4 μ):(Di x0 x1 x5 x6 x7 x10 x11 o0_0 o0_1 o0_2 o0_3 o0_4).sK ρ μ=
 cond (!x7) (
 cond (decide (x6 < (List.length x0 : Int))) (
 opt (bu x0 x6) fun y24=>
 cond (decide ((y24.toNat : Int) = (69 : Int))) (
 cond (decide (IntKind.wrap .i64 (x6 + (1 : Int)) < (List.length x0 : Int))) (
 opt (bu x0 (IntKind.wrap .i64 (x6+(1:Int)))) fun y25=>
 cond (decide ((y25.toNat : Int) = (43 : Int))) (
 opt (cE ρ x0 x1 x5 x6 x10 x11 (1:Int) (0:Int) false (IntKind.wrap .i64 (IntKind.wrap .i64 (x6+(1:Int))+(1:Int))) o0_0 o0_1 o0_2 o0_3 o0_4 μ) (kS ρ bw [.seq (cA 108 [1,1,1,1,1,1,1,1,1,1])] [(4,0)])) (
 opt (bu x0 (IntKind.wrap .i64 (x6+(1:Int)))) fun y99=>
 cond (decide ((y99.toNat : Int) = (45 : Int))) (
 opt (cE ρ x0 x1 x5 x6 x10 x11 (1:Int) (0:Int) false (IntKind.wrap .i64 (IntKind.wrap .i64 (x6+(1:Int))+(1:Int))) o0_0 o0_1 o0_2 o0_3 o0_4 μ) (kS ρ bw [.seq (cA 108 [1,1,1,1,1,1,1,1,1,1])] [(4,0)])) (
 opt (cE ρ x0 x1 x5 x6 x10 x11 (1:Int) (0:Int) false (IntKind.wrap .i64 (x6+(1:Int))) o0_0 o0_1 o0_2 o0_3 o0_4 μ) (kS ρ bw [.seq (cA 108 [1,1,1,1,1,1,1,1,1,1])] [(4,0)])))) (
 opt (cE ρ x0 x1 x5 x6 x10 x11 (1:Int) (0:Int) false (IntKind.wrap .i64 (x6+(1:Int))) o0_0 o0_1 o0_2 o0_3 o0_4 μ) (kS ρ bw [.seq (cA 108 [1,1,1,1,1,1,1,1,1,1])] [(4,0)]))) (
 opt (bu x0 x6) fun y103=>
 cond (decide ((y103.toNat : Int) = (101 : Int))) (
 cond (decide (IntKind.wrap .i64 (x6 + (1 : Int)) < (List.length x0 : Int))) (
 opt (bu x0 (IntKind.wrap .i64 (x6+(1:Int)))) fun y104=>
 cond (decide ((y104.toNat : Int) = (43 : Int))) (
 opt (cE ρ x0 x1 x5 x6 x10 x11 (1:Int) (0:Int) false (IntKind.wrap .i64 (IntKind.wrap .i64 (x6+(1:Int))+(1:Int))) o0_0 o0_1 o0_2 o0_3 o0_4 μ) (kS ρ bw [.seq (cA 108 [1,1,1,1,1,1,1,1,1,1])] [(4,0)])) (
 opt (bu x0 (IntKind.wrap .i64 (x6+(1:Int)))) fun y106=>
 cond (decide ((y106.toNat : Int) = (45 : Int))) (
 opt (cE ρ x0 x1 x5 x6 x10 x11 (1:Int) (0:Int) false (IntKind.wrap .i64 (IntKind.wrap .i64 (x6+(1:Int))+(1:Int))) o0_0 o0_1 o0_2 o0_3 o0_4 μ) (kS ρ bw [.seq (cA 108 [1,1,1,1,1,1,1,1,1,1])] [(4,0)])) (
 opt (cE ρ x0 x1 x5 x6 x10 x11 (1:Int) (0:Int) false (IntKind.wrap .i64 (x6+(1:Int))) o0_0 o0_1 o0_2 o0_3 o0_4 μ) (kS ρ bw [.seq (cA 108 [1,1,1,1,1,1,1,1,1,1])] [(4,0)])))) (
 opt (cE ρ x0 x1 x5 x6 x10 x11 (1:Int) (0:Int) false (IntKind.wrap .i64 (x6+(1:Int))) o0_0 o0_1 o0_2 o0_3 o0_4 μ) (kS ρ bw [.seq (cA 108 [1,1,1,1,1,1,1,1,1,1])] [(4,0)]))) (
 opt (bu x0 x6) fun y110=>
 cond (decide ((y110.toNat : Int) = (68 : Int))) (
 cond (decide (IntKind.wrap .i64 (x6 + (1 : Int)) < (List.length x0 : Int))) (
 opt (bu x0 (IntKind.wrap .i64 (x6+(1:Int)))) fun y111=>
 cond (decide ((y111.toNat : Int) = (43 : Int))) (
 opt (cE ρ x0 x1 x5 x6 x10 x11 (1:Int) (0:Int) false (IntKind.wrap .i64 (IntKind.wrap .i64 (x6+(1:Int))+(1:Int))) o0_0 o0_1 o0_2 o0_3 o0_4 μ) (kS ρ bw [.seq (cA 108 [1,1,1,1,1,1,1,1,1,1])] [(4,0)])) (
 opt (bu x0 (IntKind.wrap .i64 (x6+(1:Int)))) fun y113=>
 cond (decide ((y113.toNat : Int) = (45 : Int))) (
 opt (cE ρ x0 x1 x5 x6 x10 x11 (1:Int) (0:Int) false (IntKind.wrap .i64 (IntKind.wrap .i64 (x6+(1:Int))+(1:Int))) o0_0 o0_1 o0_2 o0_3 o0_4 μ) (kS ρ bw [.seq (cA 108 [1,1,1,1,1,1,1,1,1,1])] [(4,0)])) (
 opt (cE ρ x0 x1 x5 x6 x10 x11 (1:Int) (0:Int) false (IntKind.wrap .i64 (x6+(1:Int))) o0_0 o0_1 o0_2 o0_3 o0_4 μ) (kS ρ bw [.seq (cA 108 [1,1,1,1,1,1,1,1,1,1])] [(4,0)])))) (
 opt (cE ρ x0 x1 x5 x6 x10 x11 (1:Int) (0:Int) false (IntKind.wrap .i64 (x6+(1:Int))) o0_0 o0_1 o0_2 o0_3 o0_4 μ) (kS ρ bw [.seq (cA 108 [1,1,1,1,1,1,1,1,1,1])] [(4,0)]))) (
 opt (bu x0 x6) fun y117=>
 cond (decide ((y117.toNat : Int) = (100 : Int))) (
 cond (decide (IntKind.wrap .i64 (x6 + (1 : Int)) < (List.length x0 : Int))) (
 opt (bu x0 (IntKind.wrap .i64 (x6+(1:Int)))) fun y118=>
 cond (decide ((y118.toNat : Int) = (43 : Int))) (
 opt (cE ρ x0 x1 x5 x6 x10 x11 (1:Int) (0:Int) false (IntKind.wrap .i64 (IntKind.wrap .i64 (x6+(1:Int))+(1:Int))) o0_0 o0_1 o0_2 o0_3 o0_4 μ) (kS ρ bw [.seq (cA 108 [1,1,1,1,1,1,1,1,1,1])] [(4,0)])) (
 opt (bu x0 (IntKind.wrap .i64 (x6+(1:Int)))) fun y120=>
 cond (decide ((y120.toNat : Int) = (45 : Int))) (
 opt (cE ρ x0 x1 x5 x6 x10 x11 (1:Int) (0:Int) false (IntKind.wrap .i64 (IntKind.wrap .i64 (x6+(1:Int))+(1:Int))) o0_0 o0_1 o0_2 o0_3 o0_4 μ) (kS ρ bw [.seq (cA 108 [1,1,1,1,1,1,1,1,1,1])] [(4,0)])) (
 opt (cE ρ x0 x1 x5 x6 x10 x11 (1:Int) (0:Int) false (IntKind.wrap .i64 (x6+(1:Int))) o0_0 o0_1 o0_2 o0_3 o0_4 μ) (kS ρ bw [.seq (cA 108 [1,1,1,1,1,1,1,1,1,1])] [(4,0)])))) (
 opt (cE ρ x0 x1 x5 x6 x10 x11 (1:Int) (0:Int) false (IntKind.wrap .i64 (x6+(1:Int))) o0_0 o0_1 o0_2 o0_3 o0_4 μ) (kS ρ bw [.seq (cA 108 [1,1,1,1,1,1,1,1,1,1])] [(4,0)]))) (
 opt (nk ρ x0 x1 x5 x6 x10 x11 (1:Int) (0:Int) false o0_0 o0_1 o0_2 o0_3 o0_4 μ) (kS ρ bw [] [(4,0)])))))) (
 opt (nk ρ x0 x1 x5 x6 x10 x11 (1:Int) (0:Int) false o0_0 o0_1 o0_2 o0_3 o0_4 μ) (kS ρ bw [] [(4,0)]))) (
 opt (nk ρ x0 x1 x5 x6 x10 x11 (1:Int) (0:Int) false o0_0 o0_1 o0_2 o0_3 o0_4 μ) (kS ρ bw [] [(4,0)])):=by kernel_rfl
theorem ux (o0_0 o0_1 o0_2 o0_3 o0_4 μ):kB ρ 108 bw [] (fR o0_0 o0_1 o0_2 o0_3 o0_4 μ)=
 some (.ret (LV.cv (CV.agg [CV.int .i64 o0_0,CV.int .i64 o0_1,CV.str o0_2,CV.int .i64 o0_3,CV.int .i64 o0_4])) μ):=by kernel_rfl
theorem Hk (x0 x1 x5 x6 x7 o0_0 o0_1 o0_2 o0_3 o0_4 μ):kB ρ 108 bw [.block 0,.seq (cA 108 [1,1,1,1,1])] (ti x0 x1 x5 x6 x7 o0_0 o0_1 o0_2 o0_3 o0_4 μ)=
 cond (!x7) (
 cond (decide (x6 < (List.length x0 : Int))) (
 opt (bu x0 x6) fun y18=>
 cond (decide ((y18.toNat : Int) = (46 : Int))) (
 callK (ρ.call 142 [LV.str x0, LV.int .i64 (IntKind.wrap .i64 (x6 + (1 : Int)))] μ) (fun v19 μ20 =>
 opt (aC .i64 v19) fun n23=>
 opt (nj ρ x0 x1 x5 (IntKind.wrap .i64 (IntKind.wrap .i64 (x6+(1:Int))+n23)) x7 true n23 o0_0 o0_1 o0_2 o0_3 o0_4 μ20) (kB ρ 108 bw [])) pP) (
 opt (nj ρ x0 x1 x5 x6 x7 false (0:Int) o0_0 o0_1 o0_2 o0_3 o0_4 μ) (kB ρ 108 bw []))) (
 opt (nj ρ x0 x1 x5 x6 x7 false (0:Int) o0_0 o0_1 o0_2 o0_3 o0_4 μ) (kB ρ 108 bw []))) (
 opt (nj ρ x0 x1 x5 x6 x7 false (0:Int) o0_0 o0_1 o0_2 o0_3 o0_4 μ) (kB ρ 108 bw [])):=by kernel_rfl
theorem W8 (a b μ):aD E ρ 108 [LV.str a,LV.int .i64 b] μ=
 callK (ρ.call 142 [LV.str a, LV.int .i64 b] μ) (fun v1 μ2 =>
 opt (aC .i64 v1) fun n5=>
 callK (ρ.call 109 [] μ2) (fun v6 μ7 =>
 opt (gM v6) fun l10=>
 ax (dQ 1 l10 [CV.str ([46, 84, 82, 85, 69, 46] : List UInt8), CV.str ([46, 70, 65, 76, 83, 69, 46] : List UInt8)]) (
 opt (sx ρ a b n5 (IntKind.wrap .i64 (b+n5)) false (l10++[CV.str ([46,84,82,85,69,46]:List UInt8),CV.str ([46,70,65,76,83,69,46]:List UInt8)]) (List.length (l10++[CV.str ([46,84,82,85,69,46]:List UInt8),CV.str ([46,70,65,76,83,69,46]:List UInt8)]):Int) (0:Int) (0:Int) (0:Int) ([]:List UInt8) (0:Int) (0:Int) μ7) (kB ρ 108 bw [.block 0,.seq (cA 108 [1,1,1,1,1])]))) pP) pP:=by kernel_rfl
theorem W9 (μ):aD E ρ 109 [] μ=
 some (.ret (LV.osl [CV.str ([46,76,84,46]:List UInt8),CV.str ([46,76,69,46]:List UInt8),CV.str ([46,69,81,46]:List UInt8),CV.str ([46,78,69,46]:List UInt8),CV.str ([46,71,69,46]:List UInt8),CV.str ([46,71,84,46]:List UInt8),CV.str ([46,78,79,84,46]:List UInt8),CV.str ([46,65,78,68,46]:List UInt8),CV.str ([46,79,82,46]:List UInt8),CV.str ([46,69,81,86,46]:List UInt8),CV.str ([46,78,69,81,86,46]:List UInt8)]) μ):=by kernel_rfl
theorem Xa (a b c μ):aD E ρ 110 [LV.str a,LV.int .i64 b,LV.str c] μ=
 cond (decide (IntKind.wrap .i64 (b + (List.length c : Int)) ≤ (List.length a : Int))) (
 opt (dB a b (IntKind.wrap .i64 (b+(List.length c:Int)))) fun s1=>
 callK (ρ.call 107 [LV.str s1] μ) (fun v2 μ3 =>
 opt (aN v2) fun s6=>
 some (.ret (LV.bool (decide (s6=c))) μ3)) pP) (
 some (.ret (LV.bool false) μ)):=by kernel_rfl
def Je (x0:List UInt8)(x5:Int)(x6:List UInt8)(x7 o0_0 o0_1:Int)(o0_2:List UInt8)(o0_3 o0_4:Int):SegD:=⟨iH,[(4,0)],cA 111 [1,1,1,0,1,0,0],mS [(0,LV.str x0),(4,LV.loc 0 0),(5,LV.int .u8 x5),(6,LV.str x6),(7,LV.int .i64 x7)] [Ob.cells [LV.int .i64 o0_0,LV.int .i64 o0_1,LV.str o0_2,LV.int .i64 o0_3,LV.int .i64 o0_4]]⟩
def xR (x0:List UInt8)(x5:Int)(x6:List UInt8)(x7 o0_0 o0_1:Int)(o0_2:List UInt8)(o0_3 o0_4:Int)(μ:Mu):=(Je x0 x5 x6 x7 o0_0 o0_1 o0_2 o0_3 o0_4).loop ρ μ
def Iv (x0:List UInt8)(x5:Int)(x6:List UInt8)(x7 o0_0 o0_1:Int)(o0_2:List UInt8)(o0_3 o0_4:Int):SegD:=⟨iH,[(0,0),(4,0),(5,0),(6,0),(7,0)],cA 111 [1,1,1,0,1,0,0,1,0,0,1],mS [(0,LV.str x0),(4,LV.loc 0 0),(5,LV.int .u8 x5),(6,LV.str x6),(7,LV.int .i64 x7)] [Ob.cells [LV.int .i64 o0_0,LV.int .i64 o0_1,LV.str o0_2,LV.int .i64 o0_3,LV.int .i64 o0_4]]⟩
def Cr (x0:List UInt8)(x5:Int)(x6:List UInt8)(x7 o0_0 o0_1:Int)(o0_2:List UInt8)(o0_3 o0_4:Int)(μ:Mu):=(Iv x0 x5 x6 x7 o0_0 o0_1 o0_2 o0_3 o0_4).seg ρ μ
def sH (x0:List UInt8)(x5:Int)(x6:List UInt8)(x7 o0_0 o0_1:Int)(o0_2:List UInt8)(o0_3 o0_4:Int)(μ:Mu):St:= .exit 1 (mS [(0,LV.str x0),(4,LV.loc 0 0),(5,LV.int .u8 x5),(6,LV.str x6),(7,LV.int .i64 x7)] [Ob.cells [LV.int .i64 o0_0,LV.int .i64 o0_1,LV.str o0_2,LV.int .i64 o0_3,LV.int .i64 o0_4]]) μ
def Dr (x6:List UInt8)(x7 o0_0 o0_1:Int)(o0_2:List UInt8)(o0_3 o0_4:Int):SegD:=⟨iH,[(0,0),(4,0),(5,0),(6,0),(7,0)],cA 111 [1,1,1,0,1,0,0,1,0,0,1,1],mS [(4,LV.loc 0 0),(6,LV.str x6),(7,LV.int .i64 x7)] [Ob.cells [LV.int .i64 o0_0,LV.int .i64 o0_1,LV.str o0_2,LV.int .i64 o0_3,LV.int .i64 o0_4]]⟩
def vf (x6:List UInt8)(x7 o0_0 o0_1:Int)(o0_2:List UInt8)(o0_3 o0_4:Int)(μ:Mu):=(Dr x6 x7 o0_0 o0_1 o0_2 o0_3 o0_4).seg ρ μ
def mW (o0_0 o0_1:Int)(o0_2:List UInt8)(o0_3 o0_4:Int)(μ:Mu):St:= .ret (mS [(4,LV.loc 0 0)] [Ob.cells [LV.int .i64 o0_0,LV.int .i64 o0_1,LV.str o0_2,LV.int .i64 o0_3,LV.int .i64 o0_4]]) μ
def Ds (x6:List UInt8)(x7 o0_0 o0_1:Int)(o0_2:List UInt8)(o0_3 o0_4:Int):SegD:=⟨iH,[(0,0),(4,0),(5,0),(6,0),(7,0)],cA 111 [1,1,1,0,1,0,0,1,0,0,1,1,1],mS [(4,LV.loc 0 0),(6,LV.str x6),(7,LV.int .i64 x7)] [Ob.cells [LV.int .i64 o0_0,LV.int .i64 o0_1,LV.str o0_2,LV.int .i64 o0_3,LV.int .i64 o0_4]]⟩
def Il (x6:List UInt8)(x7 o0_0 o0_1:Int)(o0_2:List UInt8)(o0_3 o0_4:Int)(μ:Mu):=(Ds x6 x7 o0_0 o0_1 o0_2 o0_3 o0_4).seg ρ μ
def qz (o0_0 o0_1:Int)(o0_2:List UInt8)(o0_3 o0_4:Int)(μ:Mu):St:= .ret (mS [(4,LV.loc 0 0)] [Ob.cells [LV.int .i64 o0_0,LV.int .i64 o0_1,LV.str o0_2,LV.int .i64 o0_3,LV.int .i64 o0_4]]) μ
def KM (pv:CV)(μ:Mu):St:= .panic pv (mS [] []) μ
def ox (o0_0 o0_1:Int)(o0_2:List UInt8)(o0_3 o0_4:Int)(μ:Mu):St:= .ret (mS [(4,LV.loc 0 0)] [Ob.cells [LV.int .i64 o0_0,LV.int .i64 o0_1,LV.str o0_2,LV.int .i64 o0_3,LV.int .i64 o0_4]]) μ
def tj (o0_0 o0_1:Int)(o0_2:List UInt8)(o0_3 o0_4:Int)(μ:Mu):St:= .ret (mS [(4,LV.loc 0 0)] [Ob.cells [LV.int .i64 o0_0,LV.int .i64 o0_1,LV.str o0_2,LV.int .i64 o0_3,LV.int .i64 o0_4]]) μ
def tl (o0_0 o0_1:Int)(o0_2:List UInt8)(o0_3 o0_4:Int)(μ:Mu):St:= .exit 0 (mS [(4,LV.loc 0 0)] [Ob.cells [LV.int .i64 o0_0,LV.int .i64 o0_1,LV.str o0_2,LV.int .i64 o0_3,LV.int .i64 o0_4]]) μ
theorem PA (x6 x7 o0_0 o0_1 o0_2 o0_3 o0_4 μ):(Ds x6 x7 o0_0 o0_1 o0_2 o0_3 o0_4).sK ρ μ=
 callK (ρ.call 149 [LV.str x6] μ) (fun v6 μ7 =>
 opt (aN v6) fun s10=>
 some (qz (1:Int) (6:Int) s10 (IntKind.wrap .i64 (x7+(1:Int))) (0:Int) μ7)) (pX KM):=by kernel_rfl
theorem EM (o0_0 o0_1 o0_2 o0_3 o0_4 μ):kS ρ iH [] [(0,0),(4,0),(5,0),(6,0),(7,0)] (qz o0_0 o0_1 o0_2 o0_3 o0_4 μ)=
 some (mW o0_0 o0_1 o0_2 o0_3 o0_4 μ):=by kernel_rfl
theorem Pz (x6 x7 o0_0 o0_1 o0_2 o0_3 o0_4 μ):(Dr x6 x7 o0_0 o0_1 o0_2 o0_3 o0_4).sK ρ μ=
 cond (decide ((60 : Int) < (List.length x6 : Int))) (
 some (mW (0:Int) (0:Int) ([]:List UInt8) (0:Int) (8:Int) μ)) (
 opt (Il ρ x6 x7 o0_0 o0_1 o0_2 o0_3 o0_4 μ) (kS ρ iH [] [(0,0),(4,0),(5,0),(6,0),(7,0)])):=by kernel_rfl
theorem uE (o0_0 o0_1 o0_2 o0_3 o0_4 μ):kS ρ iH [] [(0,0),(4,0),(5,0),(6,0),(7,0)] (mW o0_0 o0_1 o0_2 o0_3 o0_4 μ)=
 some (ox o0_0 o0_1 o0_2 o0_3 o0_4 μ):=by kernel_rfl
theorem Ec (x0 x5 x6 x7 o0_0 o0_1 o0_2 o0_3 o0_4 μ):(Iv x0 x5 x6 x7 o0_0 o0_1 o0_2 o0_3 o0_4).sK ρ μ=
 cond (decide (IntKind.wrap .i64 (x7 + (1 : Int)) < (List.length x0 : Int))) (
 opt (bu x0 (IntKind.wrap .i64 (x7+(1:Int)))) fun y4=>
 cond (decide ((y4.toNat : Int) = x5)) (
 opt (dB x0 x7 (IntKind.wrap .i64 (x7+(1:Int)))) fun s5=>
 ax (bC (List.length x6 + List.length s5)) (
 some (sH x0 x5 (x6++s5) (IntKind.wrap .i64 (x7+(1:Int))) o0_0 o0_1 o0_2 o0_3 o0_4 μ))) (
 opt (vf ρ x6 x7 o0_0 o0_1 o0_2 o0_3 o0_4 μ) (kS ρ iH [] [(0,0),(4,0),(5,0),(6,0),(7,0)]))) (
 opt (vf ρ x6 x7 o0_0 o0_1 o0_2 o0_3 o0_4 μ) (kS ρ iH [] [(0,0),(4,0),(5,0),(6,0),(7,0)])):=by kernel_rfl
theorem Gq (x0 x5 x6 x7 o0_0 o0_1 o0_2 o0_3 o0_4 μ):kR ρ iH [.block 1,.seq (cA 111 [1,1,1,0,1,0,0,1,1])] [(4,0)] (cA 111 [1,1,1,0,1,0,0]) (sH x0 x5 x6 x7 o0_0 o0_1 o0_2 o0_3 o0_4 μ)=
 xR ρ x0 x5 x6 (IntKind.wrap .i64 (x7+(1:Int))) o0_0 o0_1 o0_2 o0_3 o0_4 μ:=by kernel_rfl
theorem wc (o0_0 o0_1 o0_2 o0_3 o0_4 μ):kR ρ iH [.block 1,.seq (cA 111 [1,1,1,0,1,0,0,1,1])] [(4,0)] (cA 111 [1,1,1,0,1,0,0]) (ox o0_0 o0_1 o0_2 o0_3 o0_4 μ)=
 some (tj o0_0 o0_1 o0_2 o0_3 o0_4 μ):=by kernel_rfl
theorem En (x0 x5 x6 x7 o0_0 o0_1 o0_2 o0_3 o0_4 μ):(Je x0 x5 x6 x7 o0_0 o0_1 o0_2 o0_3 o0_4).rK ρ μ=
 cond (decide (x7 < (List.length x0 : Int))) (
 opt (bu x0 x7) fun y2=>
 cond (!decide ((y2.toNat : Int) = x5)) (
 opt (dB x0 x7 (IntKind.wrap .i64 (x7+(1:Int)))) fun s3=>
 ax (bC (List.length x6 + List.length s3)) (
 xR ρ x0 x5 (x6++s3) (IntKind.wrap .i64 (x7+(1:Int))) o0_0 o0_1 o0_2 o0_3 o0_4 μ)) (
 opt (Cr ρ x0 x5 x6 x7 o0_0 o0_1 o0_2 o0_3 o0_4 μ) (kR ρ iH [.block 1,.seq (cA 111 [1,1,1,0,1,0,0,1,1])] [(4,0)] (cA 111 [1,1,1,0,1,0,0])))) (
 some (tl o0_0 o0_1 o0_2 o0_3 o0_4 μ)):=by kernel_rfl
theorem wi (o0_0 o0_1 o0_2 o0_3 o0_4 μ):kB ρ 111 iH [.block 0,.seq (cA 111 [1,1,1,1])] (tj o0_0 o0_1 o0_2 o0_3 o0_4 μ)=
 some (.ret (LV.cv (CV.agg [CV.int .i64 o0_0,CV.int .i64 o0_1,CV.str o0_2,CV.int .i64 o0_3,CV.int .i64 o0_4])) μ):=by kernel_rfl
theorem Hl (o0_0 o0_1 o0_2 o0_3 o0_4 μ):kB ρ 111 iH [.block 0,.seq (cA 111 [1,1,1,1])] (tl o0_0 o0_1 o0_2 o0_3 o0_4 μ)=
 some (.ret (LV.cv (CV.agg [CV.int .i64 (0:Int),CV.int .i64 (0:Int),CV.str ([]:List UInt8),CV.int .i64 (0:Int),CV.int .i64 (7:Int)])) μ):=by kernel_rfl
theorem Xb (a b μ):aD E ρ 111 [LV.str a,LV.int .i64 b] μ=
 opt (bu a b) fun y1=>
 opt (xR ρ a (y1.toNat:Int) ([]:List UInt8) (IntKind.wrap .i64 (b+(1:Int))) (0:Int) (0:Int) ([]:List UInt8) (0:Int) (0:Int) μ) (kB ρ 111 iH [.block 0,.seq (cA 111 [1,1,1,1])]):=by kernel_rfl
theorem Xc (μ):aD E ρ 112 [] μ=
 some (.ret (LV.osl [CV.agg [CV.str ([60,61]:List UInt8),CV.str ([46,76,69,46]:List UInt8)],CV.agg [CV.str ([62,61]:List UInt8),CV.str ([46,71,69,46]:List UInt8)],CV.agg [CV.str ([61,61]:List UInt8),CV.str ([46,69,81,46]:List UInt8)],CV.agg [CV.str ([47,61]:List UInt8),CV.str ([46,78,69,46]:List UInt8)],CV.agg [CV.str ([60]:List UInt8),CV.str ([46,76,84,46]:List UInt8)],CV.agg [CV.str ([62]:List UInt8),CV.str ([46,71,84,46]:List UInt8)]]) μ):=by kernel_rfl
theorem Xd (μ):aD E ρ 113 [] μ=
 some (.ret (LV.osl [CV.str ([42,42]:List UInt8),CV.str ([47,47]:List UInt8),CV.str ([61,62]:List UInt8),CV.str ([42]:List UInt8),CV.str ([47]:List UInt8),CV.str ([43]:List UInt8),CV.str ([45]:List UInt8),CV.str ([40]:List UInt8),CV.str ([41]:List UInt8),CV.str ([44]:List UInt8),CV.str ([58]:List UInt8),CV.str ([61]:List UInt8),CV.str ([37]:List UInt8)]) μ):=by kernel_rfl
def Jf (x0:List CV)(x3:Nat)(x12:List CV)(x13 x14:Int)(o0:List CV):SegD:=⟨wC,[(0,2),(3,0)],cA 114 [1,1,0,1,0,0],mS [(0,LV.cv (CV.sl x0)),(3,LV.lsl 0 0 x3),(12,LV.cv (CV.sl x12)),(13,LV.int .i64 x13),(14,LV.int .i64 x14)] [Ob.arr 1 o0]⟩
def CE (x0:List CV)(x3:Nat)(x12:List CV)(x13 x14:Int)(o0:List CV)(μ:Mu):=(Jf x0 x3 x12 x13 x14 o0).loop ρ μ
def Jg (x0:List CV)(x3:Nat)(x4:Int)(x12:List CV)(x13 x14:Int)(x28:List CV)(x29 x30:Int)(o0:List CV)(o1_0 o1_1:Int)(o1_2:List UInt8)(o1_3:List CV)(o2_0 o2_1:Int)(o2_2:List UInt8)(o2_3:List CV):SegD:=⟨wC,[(0,2),(3,0),(4,0),(6,0),(12,2),(13,0),(14,0)],cA 114 [1,1,0,1,0,0,1,1,0,0,1,1,0,1,0,0],mS [(0,LV.cv (CV.sl x0)),(3,LV.lsl 0 0 x3),(4,LV.int .i64 x4),(5,LV.loc 1 0),(6,LV.loc 2 0),(12,LV.cv (CV.sl x12)),(13,LV.int .i64 x13),(14,LV.int .i64 x14),(28,LV.cv (CV.sl x28)),(29,LV.int .i64 x29),(30,LV.int .i64 x30)] [Ob.arr 1 o0,Ob.cells [LV.int .i64 o1_0,LV.int .i64 o1_1,LV.str o1_2,LV.cv (CV.sl o1_3)],Ob.cells [LV.int .i64 o2_0,LV.int .i64 o2_1,LV.str o2_2,LV.osl o2_3]]⟩
def xS (x0:List CV)(x3:Nat)(x4:Int)(x12:List CV)(x13 x14:Int)(x28:List CV)(x29 x30:Int)(o0:List CV)(o1_0 o1_1:Int)(o1_2:List UInt8)(o1_3:List CV)(o2_0 o2_1:Int)(o2_2:List UInt8)(o2_3:List CV)(μ:Mu):=(Jg x0 x3 x4 x12 x13 x14 x28 x29 x30 o0 o1_0 o1_1 o1_2 o1_3 o2_0 o2_1 o2_2 o2_3).loop ρ μ
def tq (x0:List CV)(x3:Nat)(x4:Int)(x12:List CV)(x13 x14:Int)(o0:List CV)(o1_0 o1_1:Int)(o1_2:List UInt8)(o1_3:List CV)(μ:Mu):St:= .exit 2 (mS [(0,LV.cv (CV.sl x0)),(3,LV.lsl 0 0 x3),(4,LV.int .i64 x4),(6,LV.loc 1 0),(12,LV.cv (CV.sl x12)),(13,LV.int .i64 x13),(14,LV.int .i64 x14)] [Ob.arr 1 o0,Ob.cells [LV.int .i64 o1_0,LV.int .i64 o1_1,LV.str o1_2,LV.osl o1_3]]) μ
def tn (x0:List CV)(x3:Nat)(o0:List CV)(μ:Mu):St:= .exit 0 (mS [(0,LV.cv (CV.sl x0)),(3,LV.lsl 0 0 x3)] [Ob.arr 1 o0]) μ
theorem Ep (x0 x3 x4 x12 x13 x14 x28 x29 x30 o0 o1_0 o1_1 o1_2 o1_3 o2_0 o2_1 o2_2 o2_3 μ):(Jg x0 x3 x4 x12 x13 x14 x28 x29 x30 o0 o1_0 o1_1 o1_2 o1_3 o2_0 o2_1 o2_2 o2_3).rK ρ μ=
 cond (decide (x30 < x29)) (
 opt (bm x28 x30) fun c6=>
 opt (aC .i64 (LV.cv c6)) fun n7=>
 cond (decide (n7 = (-1 : Int))) (
 ax (dQ 1 o2_3 [CV.v (.pointer none)]) (
 xS ρ x0 x3 x4 x12 x13 x14 x28 x29 (IntKind.wrap .i64 (x30+(1:Int))) o0 o1_0 o1_1 o1_2 o1_3 o2_0 o2_1 o2_2 (o2_3++[CV.v (.pointer none)]) μ)) (
 ax (bW n7 x3) (
 opt (bv E.P 91 (Ob.arr 1 o0) (0+(n7).toNat*1)) fun v8=>
 opt (bP v8) fun c9=>
 ax (dc c9) (
 ax (noB c9 && true) (
 ax (fZ [c9] && dQ 1 o2_3 [c9]) (
 xS ρ x0 x3 x4 x12 x13 x14 x28 x29 (IntKind.wrap .i64 (x30+(1:Int))) o0 o1_0 o1_1 o1_2 o1_3 o2_0 o2_1 o2_2 (o2_3++[c9]) μ)))))) (
 some (tq x0 x3 x4 x12 x13 x14 o0 o2_0 o2_1 o2_2 o2_3 μ)):=by kernel_rfl
theorem Hn (x0 x3 x4 x12 x13 x14 o0 o1_0 o1_1 o1_2 o1_3 μ):kR ρ wC [.block 2,.seq (cA 114 [1,1,0,1,0,0,1,1,0,0,1,1,1]),.block 1,.seq (cA 114 [1,1,0,1,0,0,1,1,1])] [(0,2),(3,0)] (cA 114 [1,1,0,1,0,0]) (tq x0 x3 x4 x12 x13 x14 o0 o1_0 o1_1 o1_2 o1_3 μ)=
 ax (bW x4 x3) (
 ax (df 1 (CV.view [CV.int .i64 o1_0, CV.int .i64 o1_1, CV.str o1_2, CV.sl o1_3]) && Nat.ble (0 + (x4).toNat * 1 + 1) (List.length o0)) (
 CE ρ x0 x3 x12 x13 (IntKind.wrap .i64 (x14+(1:Int))) (bo o0 (0+(x4).toNat*1) (CV.cells (CV.view [CV.int .i64 o1_0,CV.int .i64 o1_1,CV.str o1_2,CV.sl o1_3]))) μ)):=by kernel_rfl
theorem Eo (x0 x3 x12 x13 x14 o0 μ):(Jf x0 x3 x12 x13 x14 o0).rK ρ μ=
 cond (decide (x14 < x13)) (
 opt (bm x12 x14) fun c1=>
 eS (LV.cv c1) fun n2 n3 s4 l5=>
 opt (xS ρ x0 x3 x14 x12 x13 x14 l5 (List.length l5:Int) (0:Int) o0 n2 n3 s4 l5 n2 n3 s4 [] μ) (kR ρ wC [.block 2,.seq (cA 114 [1,1,0,1,0,0,1,1,0,0,1,1,1]),.block 1,.seq (cA 114 [1,1,0,1,0,0,1,1,1])] [(0,2),(3,0)] (cA 114 [1,1,0,1,0,0]))) (
 some (tn x0 x3 o0 μ)):=by kernel_rfl
theorem Hm (x0 x3 o0 μ):kB ρ 114 wC [.block 0,.seq (cA 114 [1,1,1])] (tn x0 x3 o0 μ)=
 ax (bW (IntKind.wrap .i64 ((List.length x0 : Int) - (1 : Int))) x3) (
 opt (bv E.P 91 (Ob.arr 1 o0) (0+(IntKind.wrap .i64 ((List.length x0:Int) -(1:Int))).toNat*1)) fun v11=>
 opt (bP v11) fun c12=>
 some (.ret (LV.cv c12) μ)):=by kernel_rfl
theorem Xe (a μ):aD E ρ 114 [LV.cv (CV.sl a)] μ=
 ax (decide (0 ≤ (List.length a : Int)) && decide ((List.length a : Int) ≤ (1000000000 : Int))) (
 opt (CE ρ a (Int.toNat (List.length a:Int)) a (List.length a:Int) (0:Int) (gv (Int.toNat (List.length a:Int)) [CV.v (.pointer none)]) μ) (kB ρ 114 wC [.block 0,.seq (cA 114 [1,1,1])])):=by kernel_rfl
theorem Xf (a b c μ):aD E ρ 115 [LV.int .i64 a,LV.int .i64 b,LV.int .i64 c] μ=
 callK (ρ.call 69 [] μ) (fun v1 μ2 =>
 opt (cU v1) fun cs5=>
 ax (bW a 25) (
 opt (el E.P 113 cs5 (Int.toNat a*5)) fun c6=>
 dm (LV.cv c6) fun n7 n8 n9 l10 s11=>
 cond (decide ((List.length l10 : Int) ≤ b)) (
 some (.ret (LV.bool true) μ2)) (
 opt (bm l10 b) fun c12=>
 opt (aC .i64 (LV.cv c12)) fun n13=>
 some (.ret (LV.bool (decide (n13≤c))) μ2)))) pP:=by kernel_rfl
theorem Xg (a b μ):aD E ρ 116 [LV.int .i64 a,LV.int .i64 b] μ=
 cond (decide (a = (9 : Int))) (
 some (.ret (LV.int .i64 (IntKind.wrap .i64 ((10:Int) -b))) μ)) (
 cond (decide (a = (6 : Int))) (
 some (.ret (LV.int .i64 (8:Int)) μ)) (
 cond (decide (a = (7 : Int))) (
 some (.ret (LV.int .i64 (8:Int)) μ)) (
 cond (decide (a = (8 : Int))) (
 some (.ret (LV.int .i64 (4:Int)) μ)) (
 callK (ρ.call 30 [LV.int .i64 a, LV.int .i64 (15 : Int), LV.int .i64 (20 : Int)] μ) (fun v1 μ2 =>
 opt (aM v1) fun b5=>
 cond (b5) (
 some (.ret (LV.int .i64 (6:Int)) μ2)) (
 callK (ρ.call 30 [LV.int .i64 a, LV.int .i64 (10 : Int), LV.int .i64 (24 : Int)] μ2) (fun v6 μ7 =>
 opt (aM v6) fun b10=>
 cond (b10) (
 callK (ρ.call 32 [LV.int .i64 a] μ7) (fun v11 μ12 =>
 opt (aC .i64 v11) fun n15=>
 some (.ret (LV.int .i64 (IntKind.wrap .i64 (n15+b))) μ12)) pP) (
 some (.ret (LV.int .i64 (0:Int)) μ7))) pP)) pP)))):=by kernel_rfl
theorem Xh (a μ):aD E ρ 118 [LV.str a] μ=
 callK (ρ.call 119 [LV.int .i64 (5 : Int), LV.int .i64 (6 : Int), LV.int .i64 (6 : Int), LV.str a] μ) (fun v1 μ2 =>
 dm v1 fun n5 n6 n7 l8 s9=>
 some (.ret (LV.cv (CV.agg [CV.int .i64 n5,CV.int .i64 n6,CV.int .i64 n7,CV.sl l8,CV.str s9])) μ2)) pP:=by kernel_rfl
theorem Xi (a b c d μ):aD E ρ 119 [LV.int .i64 a,LV.int .i64 b,LV.int .i64 c,LV.str d] μ=
 some (.ret (LV.cv (CV.agg [CV.int .i64 a,CV.int .i64 (2:Int),CV.int .i64 (2:Int),CV.sl [CV.int .i64 b,CV.int .i64 c],CV.str d])) μ):=by kernel_rfl
def Iw (x4:Int)(x5:Bool):SegD:=⟨wD,[],cA 120 [1,0,1,0,1],mS [(4,LV.int .i64 x4),(5,LV.bool x5)] []⟩
def xM (x4:Int)(x5:Bool)(μ:Mu):=(Iw x4 x5).seg ρ μ
def fS (x2 x3:Int)(μ:Mu):St:= .ret (mS [(2,LV.int .i64 x2),(3,LV.int .i64 x3)] []) μ
def jW (μ:Mu):St:= .norm (mS [] []) μ
theorem Rr (x4 x5 μ):(Iw x4 x5).sK ρ μ=
 cond (x5) (
 some (fS (0:Int) (0:Int) μ)) (
 cond (decide (x4 = (2 : Int))) (
 some (fS (1:Int) (7:Int) μ)) (
 cond (decide (x4 = (3 : Int))) (
 some (fS (3:Int) (3:Int) μ)) (
 cond (decide (x4 = (5 : Int))) (
 cond (decide (x4 = (5 : Int))) (
 some (fS (1:Int) (1:Int) μ)) (
 some (jW μ))) (
 cond (decide (x4 = (6 : Int))) (
 cond (decide (x4 = (6 : Int))) (
 some (fS (1:Int) (1:Int) μ)) (
 some (jW μ))) (
 cond (decide (x4 = (7 : Int))) (
 cond (decide (x4 = (7 : Int))) (
 some (fS (1:Int) (1:Int) μ)) (
 some (jW μ))) (
 cond (decide (x4 = (8 : Int))) (
 some (fS (1:Int) (1:Int) μ)) (
 some (jW μ)))))))):=by kernel_rfl
theorem Gr (x2 x3 μ):kB ρ 120 wD [.block 0,.seq (cA 120 [1,1])] (fS x2 x3 μ)=
 some (.ret (LV.ltup [LV.int .i64 x2,LV.int .i64 x3]) μ):=by kernel_rfl
theorem Gs (μ):kB ρ 120 wD [.block 0,.seq (cA 120 [1,1])] (jW μ)=
 some (.ret (LV.ltup [LV.int .i64 (2:Int),LV.int .i64 (2:Int)]) μ):=by kernel_rfl
theorem Xj (a μ):aD E ρ 120 [LV.int .i64 a] μ=
 cond (decide (a = (0 : Int))) (
 opt (xM ρ a (decide (a=(0:Int))) μ) (kB ρ 120 wD [.block 0,.seq (cA 120 [1,1])])) (
 opt (xM ρ a (decide (a=(1:Int))) μ) (kB ρ 120 wD [.block 0,.seq (cA 120 [1,1])])):=by kernel_rfl
theorem Xk (a μ):aD E ρ 121 [LV.int .i64 a] μ=
 cond (decide (a = (0 : Int))) (
 some (.ret (LV.bool true) μ)) (
 cond (decide (a = (1 : Int))) (
 some (.ret (LV.bool true) μ)) (
 some (.ret (LV.bool (decide (a=(2:Int)))) μ))):=by kernel_rfl
def Ix (x0:Int)(x1:List UInt8):SegD:=⟨kh,[(4,0)],cA 122 [1,1],mS [(0,LV.int .i64 x0),(1,LV.str x1)] []⟩
def ML (x0:Int)(x1:List UInt8)(μ:Mu):=(Ix x0 x1).seg ρ μ
def mf (x4:Int)(μ:Mu):St:= .ret (mS [(4,LV.int .i64 x4)] []) μ
def Iy (x0:Int)(x1:List UInt8):SegD:=⟨kh,[(4,0)],cA 122 [1,1,1],mS [(0,LV.int .i64 x0),(1,LV.str x1)] []⟩
def pB (x0:Int)(x1:List UInt8)(μ:Mu):=(Iy x0 x1).seg ρ μ
def mg (x4:Int)(μ:Mu):St:= .ret (mS [(4,LV.int .i64 x4)] []) μ
def Iz (x0:Int)(x1:List UInt8):SegD:=⟨kh,[(4,0)],cA 122 [1,1,1,1],mS [(0,LV.int .i64 x0),(1,LV.str x1)] []⟩
def MM (x0:Int)(x1:List UInt8)(μ:Mu):=(Iz x0 x1).seg ρ μ
def jX (x4:Int)(μ:Mu):St:= .ret (mS [(4,LV.int .i64 x4)] []) μ
def Nf (pv:CV)(μ:Mu):St:= .panic pv (mS [] []) μ
def Nc (pv:CV)(μ:Mu):St:= .panic pv (mS [] []) μ
def Nb (pv:CV)(μ:Mu):St:= .panic pv (mS [] []) μ
theorem Ru (x0 x1 μ):(Iz x0 x1).sK ρ μ=
 callK (ρ.call 25 [LV.str x1] μ) (fun v17 μ18 =>
 opt (aT v17) fun xs21=>
 opt (aw xs21) fun q22=>
 opt (bp q22.1) fun l23=>
 opt (aw q22.2) fun q24=>
 opt (aC .i64 q24.1) fun n25=>
 opt (aw q24.2) fun q26=>
 opt (aC .i64 q26.1) fun n27=>
 opt (aO q26.2) fun u28=>
 cond (!decide (n27 = (0 : Int))) (
 some (jX (3:Int) μ18)) (
 cond (!decide ((List.length l23 : Int) = (1 : Int))) (
 some (jX (3:Int) μ18)) (
 opt (bm l23 (0:Int)) fun c29=>
 ig (LV.cv c29) fun n30 n31 s32=>
 cond (!(decide (n30 = (1 : Int)) && (decide (n31 = x0) && (decide (s32 = x1) && true)))) (
 some (jX (3:Int) μ18)) (
 some (jX (0:Int) μ18))))) (pX Nf):=by kernel_rfl
theorem Gv (x4 μ):kS ρ kh [] [(4,0)] (jX x4 μ)=
 some (mg x4 μ):=by kernel_rfl
theorem Rt (x0 x1 μ):(Iy x0 x1).sK ρ μ=
 cond (decide ((122 : Int) < (List.length x1 : Int))) (
 some (mg (3:Int) μ)) (
 callK (ρ.call 62 [LV.str x1] μ) (fun v12 μ13 =>
 opt (aC .i64 v12) fun n16=>
 cond (!decide (n16 = (0 : Int))) (
 some (mg (3:Int) μ13)) (
 opt (MM ρ x0 x1 μ13) (kS ρ kh [] [(4,0)]))) (pX Nc)):=by kernel_rfl
theorem Gu (x4 μ):kS ρ kh [] [(4,0)] (mg x4 μ)=
 some (mf x4 μ):=by kernel_rfl
theorem Rs (x0 x1 μ):(Ix x0 x1).sK ρ μ=
 cond (decide (x0 = (0 : Int))) (
 cond (decide ((List.length x1 : Int) = (10 : Int))) (
 callK (ρ.call 142 [LV.str x1, LV.int .i64 (0 : Int)] μ) (fun v6 μ7 =>
 opt (aC .i64 v6) fun n10=>
 cond (decide (n10 = (10 : Int))) (
 opt (bu x1 (0:Int)) fun y11=>
 cond (!decide ((y11.toNat : Int) = (48 : Int))) (
 cond (!(Op.bytesLess x1 ([50, 49, 52, 55, 52, 56, 51, 54, 52, 55] : List UInt8) || decide (x1 = ([50, 49, 52, 55, 52, 56, 51, 54, 52, 55] : List UInt8)))) (
 some (mf (28:Int) μ7)) (
 opt (pB ρ x0 x1 μ7) (kS ρ kh [] [(4,0)]))) (
 opt (pB ρ x0 x1 μ7) (kS ρ kh [] [(4,0)]))) (
 opt (pB ρ x0 x1 μ7) (kS ρ kh [] [(4,0)]))) (pX Nb)) (
 opt (pB ρ x0 x1 μ) (kS ρ kh [] [(4,0)]))) (
 opt (pB ρ x0 x1 μ) (kS ρ kh [] [(4,0)])):=by kernel_rfl
theorem Gt (x4 μ):kB ρ 122 kh [] (mf x4 μ)=
 some (.ret (LV.int .i64 x4) μ):=by kernel_rfl
theorem Xl (a b μ):aD E ρ 122 [LV.int .i64 a,LV.str b] μ=
 callK (ρ.call 30 [LV.int .i64 a, LV.int .i64 (0 : Int), LV.int .i64 (6 : Int)] μ) (fun v1 μ2 =>
 opt (aM v1) fun b5=>
 cond (!b5) (
 some (.ret (LV.int .i64 (15:Int)) μ2)) (
 cond (decide (a = (3 : Int))) (
 some (.ret (LV.int .i64 (15:Int)) μ2)) (
 cond (decide (a = (4 : Int))) (
 some (.ret (LV.int .i64 (15:Int)) μ2)) (
 opt (ML ρ a b μ2) (kB ρ 122 kh []))))) pP:=by kernel_rfl
theorem Xm (a μ):aD E ρ 123 [LV.int .i64 a] μ=
 cond (decide (a = (0 : Int))) (
 some (.ret (LV.bool true) μ)) (
 cond (decide (a = (1 : Int))) (
 some (.ret (LV.bool true) μ)) (
 some (.ret (LV.bool (decide (a=(2:Int)))) μ))):=by kernel_rfl
theorem Xn (a μ):aD E ρ 124 [LV.int .u8 a] μ=
 callK (ρ.call 30 [LV.int .i64 (IntKind.wrap .i64 (IntKind.wrap .u8 ((BitVec.ofInt (IntKind.bits .u8) a ||| BitVec.ofInt (IntKind.bits .u8) (32 : Int)).toNat : Int))), LV.int .i64 (97 : Int), LV.int .i64 (122 : Int)] μ) (fun v1 μ2 =>
 opt (aM v1) fun b5=>
 some (.ret (LV.bool b5) μ2)) pP:=by kernel_rfl
theorem Xo (a μ):aD E ρ 125 [LV.int .u8 a] μ=
 callK (ρ.call 30 [LV.int .i64 (IntKind.wrap .i64 a), LV.int .i64 (48 : Int), LV.int .i64 (57 : Int)] μ) (fun v1 μ2 =>
 opt (aM v1) fun b5=>
 some (.ret (LV.bool b5) μ2)) pP:=by kernel_rfl
def Jh (x0:List CV)(x1:List UInt8)(x7 x8:Int):SegD:=⟨CA,[],cA 126 [1,0,1,0,0],mS [(0,LV.cv (CV.sl x0)),(1,LV.str x1),(7,LV.int .i64 x7),(8,LV.int .i64 x8)] []⟩
def CF (x0:List CV)(x1:List UInt8)(x7 x8:Int)(μ:Mu):=(Jh x0 x1 x7 x8).loop ρ μ
def tr (x4:Int)(μ:Mu):St:= .ret (mS [(4,LV.int .i64 x4)] []) μ
def tu (μ:Mu):St:= .exit 0 (mS [] []) μ
theorem Er (x0 x1 x7 x8 μ):(Jh x0 x1 x7 x8).rK ρ μ=
 cond (decide (x8 < x7)) (
 opt (bm x0 x8) fun c1=>
 opt (aN (LV.cv c1)) fun s2=>
 cond (decide (x1 = s2)) (
 some (tr x8 μ)) (
 CF ρ x0 x1 x7 (IntKind.wrap .i64 (x8+(1:Int))) μ)) (
 some (tu μ)):=by kernel_rfl
theorem Ho (x4 μ):kB ρ 126 CA [.block 0,.seq (cA 126 [1,1])] (tr x4 μ)=
 some (.ret (LV.int .i64 x4) μ):=by kernel_rfl
theorem Hp (μ):kB ρ 126 CA [.block 0,.seq (cA 126 [1,1])] (tu μ)=
 some (.ret (LV.int .i64 (-1:Int)) μ):=by kernel_rfl
theorem Xp (a b μ):aD E ρ 126 [LV.cv (CV.sl a),LV.str b] μ=
 opt (CF ρ a b (List.length a:Int) (0:Int) μ) (kB ρ 126 CA [.block 0,.seq (cA 126 [1,1])]):=by kernel_rfl
def IA (o0_0:List UInt8)(o0_1:Bool):SegD:=⟨jx,[(4,0),(5,0),(6,0)],cA 127 [1,1,1],mS [(7,LV.loc 0 0)] [Ob.cells [LV.str o0_0,LV.bool o0_1,LV.cv (CV.v (.slice none 0 0)),LV.cv (CV.v (.slice none 0 0))]]⟩
def MN (o0_0:List UInt8)(o0_1:Bool)(μ:Mu):=(IA o0_0 o0_1).seg ρ μ
def IB (x9 x10:Int)(lam:Lam):SegD:=⟨jx,[(7,0)],cA 127 [1,1,1,0,1],mS [(7,LV.loc 0 0),(9,LV.int .i64 x9),(10,LV.int .i64 x10)] lam true⟩
def Cs (x9 x10:Int)(lam:Lam)(μ:Mu):=(IB x9 x10 lam).seg ρ μ
def sJ (x4_0:List UInt8)(x4_1:Bool)(x4_2 x4_3:List CV)(x5 x6:Int)(μ:Mu):St:= .ret (mS [(4,LV.cv (CV.view [CV.str x4_0,CV.bool x4_1,CV.sl x4_2,CV.sl x4_3])),(5,LV.int .i64 x5),(6,LV.int .i64 x6)] [Ob.dead] true) μ
def sL (o0_0:List UInt8)(o0_1:Bool)(o0_2 o0_3:List CV)(μ:Mu):St:= .norm (mS [(7,LV.loc 0 0)] [Ob.cells [LV.str o0_0,LV.bool o0_1,LV.osl o0_2,LV.osl o0_3]] true) μ
def oy (x4_0:List UInt8)(x4_1:Bool)(x4_2 x4_3:List CV)(x5 x6:Int)(μ:Mu):St:= .ret (mS [(4,LV.cv (CV.view [CV.str x4_0,CV.bool x4_1,CV.sl x4_2,CV.sl x4_3])),(5,LV.int .i64 x5),(6,LV.int .i64 x6)] [Ob.dead] true) μ
def IC (lam:Lam):SegD:=⟨jx,[(4,0),(5,0),(6,0)],cA 127 [1,1,1,1],mS [(7,LV.loc 0 0)] lam true⟩
def Ct (lam:Lam)(μ:Mu):=(IC lam).seg ρ μ
def sM (x4_0:List UInt8)(x4_1:Bool)(x4_2 x4_3:List CV)(x5 x6:Int)(μ:Mu):St:= .ret (mS [(4,LV.cv (CV.view [CV.str x4_0,CV.bool x4_1,CV.sl x4_2,CV.sl x4_3])),(5,LV.int .i64 x5),(6,LV.int .i64 x6)] [Ob.dead] true) μ
def Dt (x7_0:List UInt8)(x7_1:Bool)(x7_2 x7_3:List CV)(lam:Lam):SegD:=⟨jx,[(4,0),(5,0),(6,0)],cA 127 [1,1,1,1,1],mS [(7,LV.cv (CV.view [CV.str x7_0,CV.bool x7_1,CV.sl x7_2,CV.sl x7_3]))] lam true⟩
def Im (x7_0:List UInt8)(x7_1:Bool)(x7_2 x7_3:List CV)(lam:Lam)(μ:Mu):=(Dt x7_0 x7_1 x7_2 x7_3 lam).seg ρ μ
def qA (x4_0:List UInt8)(x4_1:Bool)(x4_2 x4_3:List CV)(x5 x6:Int)(o0:Ob)(μ:Mu):St:= .ret (mS [(4,LV.cv (CV.view [CV.str x4_0,CV.bool x4_1,CV.sl x4_2,CV.sl x4_3])),(5,LV.int .i64 x5),(6,LV.int .i64 x6)] [o0] true) μ
def sN (x4_0:List UInt8)(x4_1:Bool)(x4_2 x4_3:List CV)(x5 x6:Int)(o0:Ob)(μ:Mu):St:= .ret (mS [(4,LV.cv (CV.view [CV.str x4_0,CV.bool x4_1,CV.sl x4_2,CV.sl x4_3])),(5,LV.int .i64 x5),(6,LV.int .i64 x6)] [o0] true) μ
def sI (x4_0:List UInt8)(x4_1:Bool)(x4_2 x4_3:List CV)(x5 x6:Int)(o0:Ob)(μ:Mu):St:= .ret (mS [(4,LV.cv (CV.view [CV.str x4_0,CV.bool x4_1,CV.sl x4_2,CV.sl x4_3])),(5,LV.int .i64 x5),(6,LV.int .i64 x6)] [o0] true) μ
def Ng (pv:CV)(lam:Lam)(μ:Mu):St:= .panic pv (mS [] lam true) μ
theorem Ed (x9 x10:Int)(o0_0:List UInt8)(o0_1:Bool)(o0_2 o0_3:List CV)(μ:Mu):(IB x9 x10 [Ob.cells [LV.str o0_0,LV.bool o0_1,LV.osl o0_2,LV.osl o0_3]]).sK ρ μ=
 cond (!decide (x10 = (0 : Int))) (
 some (sJ o0_0 o0_1 o0_2 o0_3 x9 x10 μ)) (
 some (sL o0_0 o0_1 o0_2 o0_3 μ)):=by kernel_rfl
theorem Gy (x4_0 x4_1 x4_2 x4_3 x5 x6 μ):kS ρ jx [.seq (cA 127 [1,1,1,1])] [(4,0),(5,0),(6,0)] (sJ x4_0 x4_1 x4_2 x4_3 x5 x6 μ)=
 some (oy x4_0 x4_1 x4_2 x4_3 x5 x6 μ):=by kernel_rfl
theorem PB (x7_0:List UInt8)(x7_1:Bool)(x7_2 x7_3:List CV)(o0:Ob)(μ:Mu):(Dt x7_0 x7_1 x7_2 x7_3 [o0]).sK ρ μ=
 some (qA x7_0 x7_1 x7_2 x7_3 (List.length x7_2:Int) (0:Int) o0 μ):=by kernel_rfl
theorem EN (x4_0 x4_1 x4_2 x4_3 x5 x6 o0 μ):kS ρ jx [] [(4,0),(5,0),(6,0)] (qA x4_0 x4_1 x4_2 x4_3 x5 x6 o0 μ)=
 some (sN x4_0 x4_1 x4_2 x4_3 x5 x6 o0 μ):=by kernel_rfl
theorem Ee (o0_0:List UInt8)(o0_1:Bool)(o0_2 o0_3:List CV)(μ:Mu):(IC [Ob.cells [LV.str o0_0,LV.bool o0_1,LV.osl o0_2,LV.osl o0_3]]).sK ρ μ=
 cond (decide ((300 : Int) < (List.length o0_2 : Int))) (
 some (sM o0_0 o0_1 o0_2 o0_3 (0:Int) (8:Int) μ)) (
 opt (Im ρ o0_0 o0_1 o0_2 o0_3 [Ob.dead] μ) (kS ρ jx [] [(4,0),(5,0),(6,0)])):=by kernel_rfl
theorem GA (x4_0 x4_1 x4_2 x4_3 x5 x6 μ):kS ρ jx [] [(4,0),(5,0),(6,0)] (sM x4_0 x4_1 x4_2 x4_3 x5 x6 μ)=
 some (oy x4_0 x4_1 x4_2 x4_3 x5 x6 μ):=by kernel_rfl
theorem GB (x4_0 x4_1 x4_2 x4_3 x5 x6 o0 μ):kS ρ jx [] [(4,0),(5,0),(6,0)] (sN x4_0 x4_1 x4_2 x4_3 x5 x6 o0 μ)=
 some (sI x4_0 x4_1 x4_2 x4_3 x5 x6 o0 μ):=by kernel_rfl
theorem Gz (o0_0 o0_1 o0_2 o0_3 μ):kS ρ jx [.seq (cA 127 [1,1,1,1])] [(4,0),(5,0),(6,0)] (sL o0_0 o0_1 o0_2 o0_3 μ)=
 opt (Ct ρ [Ob.cells [LV.str o0_0,LV.bool o0_1,LV.osl o0_2,LV.osl o0_3]] μ) (kS ρ jx [] [(4,0),(5,0),(6,0)]):=by kernel_rfl
theorem Rv (o0_0 o0_1 μ):(IA o0_0 o0_1).sK ρ μ=
 callK (ρ.call 152 [LV.cv (CV.ref (List.length μ) 0 0)] (μ ++ [[Ob.cells [LV.str o0_0, LV.bool o0_1, LV.cv (CV.v (.slice none 0 0)), LV.cv (CV.v (.slice none 0 0))]]])) (fun v6 μ7 =>
 opt (jp μ7) fun q8=>
 opt (aT v6) fun xs12=>
 opt (aw xs12) fun q13=>
 opt (aC .i64 q13.1) fun n14=>
 opt (aw q13.2) fun q15=>
 opt (aC .i64 q15.1) fun n16=>
 opt (aO q15.2) fun u17=>
 Ml [(0,[0,0,1,1])] q8.2 fun lam18=>
 opt (Cs ρ n14 n16 lam18 q8.1) (kS ρ jx [.seq (cA 127 [1,1,1,1])] [(4,0),(5,0),(6,0)])) (fun v10 μ9=>
 opt (jp μ9) fun q11=>
 some (Ng v10 q11.2 q11.1)):=by kernel_rfl
theorem Gw (x4_0 x4_1 x4_2 x4_3 x5 x6 μ):kB ρ 127 jx [] (oy x4_0 x4_1 x4_2 x4_3 x5 x6 μ)=
 ax (gn (List.length μ) (LV.ltup [LV.cv (CV.view [CV.str x4_0,CV.bool x4_1,CV.sl x4_2,CV.sl x4_3]),LV.int .i64 x5,LV.int .i64 x6])) (some (.ret (LV.ltup [LV.cv (CV.view [CV.str x4_0,CV.bool x4_1,CV.sl x4_2,CV.sl x4_3]),LV.int .i64 x5,LV.int .i64 x6]) μ)):=by kernel_rfl
theorem Gx (x4_0 x4_1 x4_2 x4_3 x5 x6 o0 μ):kB ρ 127 jx [] (sI x4_0 x4_1 x4_2 x4_3 x5 x6 o0 μ)=
 ax (gn (List.length μ) (LV.ltup [LV.cv (CV.view [CV.str x4_0,CV.bool x4_1,CV.sl x4_2,CV.sl x4_3]),LV.int .i64 x5,LV.int .i64 x6])) (some (.ret (LV.ltup [LV.cv (CV.view [CV.str x4_0,CV.bool x4_1,CV.sl x4_2,CV.sl x4_3]),LV.int .i64 x5,LV.int .i64 x6]) μ)):=by kernel_rfl
theorem Xq (a b μ):aD E ρ 127 [LV.str a,LV.bool b] μ=
 callK (ρ.call 151 [LV.str a] μ) (fun v1 μ2 =>
 opt (aC .i64 v1) fun n5=>
 cond (!decide (n5 = (0 : Int))) (
 some (.ret (LV.ltup [LV.cv (CV.view [CV.str a,CV.bool b,CV.v (.slice none 0 0),CV.v (.slice none 0 0)]),LV.int .i64 (0:Int),LV.int .i64 n5]) μ2)) (
 opt (MN ρ a b μ2) (kB ρ 127 jx []))) pP:=by kernel_rfl
def ID (x4:CV)(o0_0 o0_1:Int)(o0_2:List UInt8):SegD:=⟨Ku,[(2,0),(3,0)],cA 134 [1,1,1],mS [(2,LV.loc 0 0),(4,LV.cv x4)] [Ob.cells [LV.int .i64 o0_0,LV.int .i64 o0_1,LV.str o0_2]]⟩
def MO (x4:CV)(o0_0 o0_1:Int)(o0_2:List UInt8)(μ:Mu):=(ID x4 o0_0 o0_1 o0_2).seg ρ μ
def sO (x3:Bool)(o0_0 o0_1:Int)(o0_2:List UInt8)(μ:Mu):St:= .ret (mS [(2,LV.loc 0 0),(3,LV.bool x3)] [Ob.cells [LV.int .i64 o0_0,LV.int .i64 o0_1,LV.str o0_2]]) μ
theorem Rw (x4 o0_0 o0_1 o0_2 μ):(ID x4 o0_0 o0_1 o0_2).sK ρ μ=
 opt (eU (LV.cv x4)) fun b13=>
 ax (!b13) (
 opt (dq (LV.cv (eM x4))) fun cs14=>
 opt (aw cs14) fun q15=>
 opt (aN (LV.cv q15.1)) fun s16=>
 opt (aw q15.2) fun q17=>
 opt (aM (LV.cv q17.1)) fun b18=>
 opt (aw q17.2) fun q19=>
 opt (bp (LV.cv q19.1)) fun l20=>
 opt (aw q19.2) fun q21=>
 opt (bp (LV.cv q21.1)) fun l22=>
 opt (aO q21.2) fun u23=>
 opt (bm l20 (0:Int)) fun c24=>
 ig (LV.cv c24) fun n25 n26 s27=>
 some (sO true n25 n26 s27 μ)):=by kernel_rfl
theorem GC (x3 o0_0 o0_1 o0_2 μ):kB ρ 134 Ku [] (sO x3 o0_0 o0_1 o0_2 μ)=
 some (.ret (LV.ltup [LV.cv (CV.agg [CV.int .i64 o0_0,CV.int .i64 o0_1,CV.str o0_2]),LV.bool x3]) μ):=by kernel_rfl
theorem Xr (a μ):aD E ρ 134 [LV.str a] μ=
 callK (ρ.call 127 [LV.str a, LV.bool false] μ) (fun v1 μ2 =>
 opt (aT v1) fun xs5=>
 opt (aw xs5) fun q6=>
 opt (bP q6.1) fun c7=>
 opt (aw q6.2) fun q8=>
 opt (aC .i64 q8.1) fun n9=>
 opt (aw q8.2) fun q10=>
 opt (aC .i64 q10.1) fun n11=>
 opt (aO q10.2) fun u12=>
 cond (!decide (n11 = (0 : Int))) (
 some (.ret (LV.ltup [LV.cv (CV.agg [CV.int .i64 (0:Int),CV.int .i64 (0:Int),CV.str ([]:List UInt8)]),LV.bool false]) μ2)) (
 cond (!decide (n9 = (1 : Int))) (
 some (.ret (LV.ltup [LV.cv (CV.agg [CV.int .i64 (0:Int),CV.int .i64 (0:Int),CV.str ([]:List UInt8)]),LV.bool false]) μ2)) (
 opt (MO ρ c7 (0:Int) (0:Int) ([]:List UInt8) μ2) (kB ρ 134 Ku [])))) pP:=by kernel_rfl
theorem Xs (a μ):aD E ρ 135 [LV.int .u8 a] μ=
 cond (decide ((97 : Int) ≤ a)) (
 cond (decide (a ≤ (122 : Int))) (
 some (.ret (LV.bool true) μ)) (
 cond (decide ((65 : Int) ≤ a)) (
 some (.ret (LV.bool (decide (a≤(90:Int)))) μ)) (
 some (.ret (LV.bool false) μ)))) (
 cond (decide ((65 : Int) ≤ a)) (
 some (.ret (LV.bool (decide (a≤(90:Int)))) μ)) (
 some (.ret (LV.bool false) μ))):=by kernel_rfl
theorem Xt (a μ):aD E ρ 138 [LV.int .u8 a] μ=
 callK (ρ.call 135 [LV.int .u8 a] μ) (fun v1 μ2 =>
 opt (aM v1) fun b5=>
 cond (b5) (
 some (.ret (LV.bool true) μ2)) (
 callK (ρ.call 160 [LV.int .u8 a] μ2) (fun v6 μ7 =>
 opt (aM v6) fun b10=>
 cond (b10) (
 some (.ret (LV.bool true) μ7)) (
 some (.ret (LV.bool (decide (a=(95:Int)))) μ7))) pP)) pP:=by kernel_rfl
def Ji (x0:List UInt8)(x1 x5:Int):SegD:=⟨Kv,[(5,0)],cA 142 [1,1,0,0,0],mS [(0,LV.str x0),(1,LV.int .i64 x1),(5,LV.int .i64 x5)] []⟩
def CG (x0:List UInt8)(x1 x5:Int)(μ:Mu):=(Ji x0 x1 x5).loop ρ μ
def oJ (x5:Int)(μ:Mu):St:= .exit 0 (mS [(5,LV.int .i64 x5)] []) μ
def Nq (pv:CV)(μ:Mu):St:= .panic pv (mS [] []) μ
theorem Es (x0 x1 x5 μ):(Ji x0 x1 x5).rK ρ μ=
 cond (decide (IntKind.wrap .i64 (x1 + x5) < (List.length x0 : Int))) (
 opt (bu x0 (IntKind.wrap .i64 (x1+x5))) fun y1=>
 callK (ρ.call 106 [LV.int .u8 (y1.toNat : Int)] μ) (fun v2 μ3 =>
 opt (aM v2) fun b6=>
 cond (b6) (
 CG ρ x0 x1 (IntKind.wrap .i64 (x5+(1:Int))) μ3) (
 some (oJ x5 μ3))) (pX Nq)) (
 some (oJ x5 μ)):=by kernel_rfl
theorem Hq (x5 μ):kB ρ 142 Kv [.block 0,.seq (cA 142 [1,1,1])] (oJ x5 μ)=
 some (.ret (LV.int .i64 x5) μ):=by kernel_rfl
theorem Xu (a b μ):aD E ρ 142 [LV.str a,LV.int .i64 b] μ=
 opt (CG ρ a b (0:Int) μ) (kB ρ 142 Kv [.block 0,.seq (cA 142 [1,1,1])]):=by kernel_rfl
def Jj (x0:List UInt8)(x3 x4:Int):SegD:=⟨Kw,[(3,0)],cA 143 [1,1,0,1,0,0],mS [(0,LV.str x0),(3,LV.int .i64 x3),(4,LV.int .i64 x4)] []⟩
def CH (x0:List UInt8)(x3 x4:Int)(μ:Mu):=(Jj x0 x3 x4).loop ρ μ
def tv (x3:Int)(μ:Mu):St:= .exit 0 (mS [(3,LV.int .i64 x3)] []) μ
theorem Et (x0 x3 x4 μ):(Jj x0 x3 x4).rK ρ μ=
 cond (decide (x4 < (List.length x0 : Int))) (
 opt (bu x0 x4) fun y1=>
 CH ρ x0 (IntKind.wrap .i64 (IntKind.wrap .i64 ((10:Int)*x3)+IntKind.wrap .i64 (IntKind.wrap .u8 ((y1.toNat:Int) -(48:Int))))) (IntKind.wrap .i64 (x4+(1:Int))) μ) (
 some (tv x3 μ)):=by kernel_rfl
theorem Hr (x3 μ):kB ρ 143 Kw [.block 0,.seq (cA 143 [1,1,1])] (tv x3 μ)=
 some (.ret (LV.int .i64 x3) μ):=by kernel_rfl
theorem Xv (a μ):aD E ρ 143 [LV.str a] μ=
 opt (CH ρ a (0:Int) (0:Int) μ) (kB ρ 143 Kw [.block 0,.seq (cA 143 [1,1,1])]):=by kernel_rfl
def Jk (x0:List UInt8):SegD:=⟨Kx,[(0,0)],cA 144 [1,0,0,0],mS [(0,LV.str x0)] []⟩
def CI (x0:List UInt8)(μ:Mu):=(Jk x0).loop ρ μ
def oK (x0:List UInt8)(μ:Mu):St:= .exit 0 (mS [(0,LV.str x0)] []) μ
theorem xw (x0 μ):(Jk x0).rK ρ μ=
 cond (decide ((1 : Int) < (List.length x0 : Int))) (
 opt (bu x0 (0:Int)) fun y1=>
 cond (decide ((y1.toNat : Int) = (48 : Int))) (
 opt (dB x0 (1:Int) (List.length x0:Int)) fun s2=>
 CI ρ s2 μ) (
 some (oK x0 μ))) (
 some (oK x0 μ)):=by kernel_rfl
theorem Hs (x0 μ):kB ρ 144 Kx [.block 0,.seq (cA 144 [1,1])] (oK x0 μ)=
 some (.ret (LV.str x0) μ):=by kernel_rfl
theorem Xw (a μ):aD E ρ 144 [LV.str a] μ=
 opt (CI ρ a μ) (kB ρ 144 Kx [.block 0,.seq (cA 144 [1,1])]):=by kernel_rfl
theorem Xx (a μ):aD E ρ 145 [LV.str a] μ=
 cond (decide (a = ([] : List UInt8))) (
 some (.ret (LV.str ([48]:List UInt8)) μ)) (
 some (.ret (LV.str a) μ)):=by kernel_rfl
def Jl (x0:List UInt8):SegD:=⟨Ky,[(0,0)],cA 146 [1,0,0,0],mS [(0,LV.str x0)] []⟩
def CJ (x0:List UInt8)(μ:Mu):=(Jl x0).loop ρ μ
def oL (x0:List UInt8)(μ:Mu):St:= .exit 0 (mS [(0,LV.str x0)] []) μ
theorem xx (x0 μ):(Jl x0).rK ρ μ=
 cond (decide ((1 : Int) < (List.length x0 : Int))) (
 opt (bu x0 (IntKind.wrap .i64 ((List.length x0:Int) -(1:Int)))) fun y1=>
 cond (decide ((y1.toNat : Int) = (48 : Int))) (
 opt (dB x0 (0:Int) (IntKind.wrap .i64 ((List.length x0:Int) -(1:Int)))) fun s2=>
 CJ ρ s2 μ) (
 some (oL x0 μ))) (
 some (oL x0 μ)):=by kernel_rfl
theorem Ht (x0 μ):kB ρ 146 Ky [.block 0,.seq (cA 146 [1,1])] (oL x0 μ)=
 some (.ret (LV.str x0) μ):=by kernel_rfl
theorem Xy (a μ):aD E ρ 146 [LV.str a] μ=
 opt (CJ ρ a μ) (kB ρ 146 Ky [.block 0,.seq (cA 146 [1,1])]):=by kernel_rfl
theorem Xz (a μ):aD E ρ 147 [LV.str a] μ=
 cond (decide (a = ([48] : List UInt8))) (
 some (.ret (LV.int .i64 (0:Int)) μ)) (
 some (.ret (LV.int .i64 (List.length a:Int)) μ)):=by kernel_rfl
def IE (x0:Int):SegD:=⟨wE,[(0,0)],cA 148 [1,0,1,0,1],mS [(0,LV.int .i64 x0)] []⟩
def MP (x0:Int)(μ:Mu):=(IE x0).seg ρ μ
def sP (x2:List UInt8)(μ:Mu):St:= .ret (mS [(2,LV.str x2)] []) μ
def AO (pv:CV)(μ:Mu):St:= .panic pv (mS [] []) μ
def IF (x0:Int):SegD:=⟨wE,[(2,0)],cA 148 [1,1],mS [(0,LV.int .i64 x0)] []⟩
def MQ (x0:Int)(μ:Mu):=(IF x0).seg ρ μ
def oz (x2:List UInt8)(μ:Mu):St:= .ret (mS [(2,LV.str x2)] []) μ
def AP (pv:CV)(μ:Mu):St:= .panic pv (mS [] []) μ
theorem Rx (x0 μ):(IE x0).sK ρ μ=
 callK (ρ.call 148 [LV.int .i64 (IntKind.wrap .i64 (Int.tdiv x0 (10 : Int)))] μ) (fun v6 μ7 =>
 opt (aN v6) fun s10=>
 callK (ρ.call 148 [LV.int .i64 (IntKind.wrap .i64 (0 - Int.tmod x0 (10 : Int)))] μ7) (fun v11 μ12 =>
 opt (aN v11) fun s15=>
 ax (bC (List.length s10 + List.length s15)) (
 some (sP (s10++s15) μ12))) (pX AO)) (pX AO):=by kernel_rfl
theorem GD (x2 μ):kB ρ 148 wE [.seq (cA 148 [1,1])] (sP x2 μ)=
 some (.ret (LV.str x2) μ):=by kernel_rfl
theorem Ry (x0 μ):(IF x0).sK ρ μ=
 cond (decide ((9 : Int) < x0)) (
 callK (ρ.call 148 [LV.int .i64 (IntKind.wrap .i64 (Int.tdiv x0 (10 : Int)))] μ) (fun v17 μ18 =>
 opt (aN v17) fun s21=>
 callK (ρ.call 148 [LV.int .i64 (Int.tmod x0 (10 : Int))] μ18) (fun v22 μ23 =>
 opt (aN v22) fun s26=>
 ax (bC (List.length s21 + List.length s26)) (
 some (oz (s21++s26) μ23))) (pX AP)) (pX AP)) (
 opt (dB ([48,49,50,51,52,53,54,55,56,57]:List UInt8) x0 (IntKind.wrap .i64 (x0+(1:Int)))) fun s27=>
 some (oz s27 μ)):=by kernel_rfl
theorem GE (x2 μ):kB ρ 148 wE [] (oz x2 μ)=
 some (.ret (LV.str x2) μ):=by kernel_rfl
theorem Ta (a μ):aD E ρ 148 [LV.int .i64 a] μ=
 cond (decide (a < (0 : Int))) (
 cond (decide ((-10 : Int) < a)) (
 callK (ρ.call 148 [LV.int .i64 (IntKind.wrap .i64 (0 - a))] μ) (fun v1 μ2 =>
 opt (aN v1) fun s5=>
 ax (bC (List.length ([45] : List UInt8) + List.length s5)) (
 some (.ret (LV.str (([45]:List UInt8)++s5)) μ2))) pP) (
 opt (MP ρ a μ) (kB ρ 148 wE [.seq (cA 148 [1,1])]))) (
 opt (MQ ρ a μ) (kB ρ 148 wE [])):=by kernel_rfl
def Jm (x0 x3:List UInt8)(x4:Int):SegD:=⟨Kz,[(3,0)],cA 149 [1,1,0,1,0,0],mS [(0,LV.str x0),(3,LV.str x3),(4,LV.int .i64 x4)] []⟩
def xT (x0 x3:List UInt8)(x4:Int)(μ:Mu):=(Jm x0 x3 x4).loop ρ μ
def tw (x3:List UInt8)(μ:Mu):St:= .exit 0 (mS [(3,LV.str x3)] []) μ
theorem Eu (x0 x3 x4 μ):(Jm x0 x3 x4).rK ρ μ=
 cond (decide (x4 < (List.length x0 : Int))) (
 opt (dB x0 x4 (IntKind.wrap .i64 (x4+(1:Int)))) fun s1=>
 ax (bC (List.length x3 + List.length s1)) (
 opt (bu x0 x4) fun y2=>
 cond (decide ((y2.toNat : Int) = (39 : Int))) (
 ax (bC (List.length (x3 ++ s1) + List.length ([39] : List UInt8))) (
 xT ρ x0 ((x3++s1)++([39]:List UInt8)) (IntKind.wrap .i64 (x4+(1:Int))) μ)) (
 xT ρ x0 (x3++s1) (IntKind.wrap .i64 (x4+(1:Int))) μ))) (
 some (tw x3 μ)):=by kernel_rfl
theorem Hu (x3 μ):kB ρ 149 Kz [.block 0,.seq (cA 149 [1,1,1])] (tw x3 μ)=
 ax (bC (List.length x3 + List.length ([39] : List UInt8))) (
 some (.ret (LV.str (x3++([39]:List UInt8))) μ)):=by kernel_rfl
theorem XA (a μ):aD E ρ 149 [LV.str a] μ=
 opt (xT ρ a ([39]:List UInt8) (0:Int) μ) (kB ρ 149 Kz [.block 0,.seq (cA 149 [1,1,1])]):=by kernel_rfl
theorem XB (a μ):aD E ρ 151 [LV.str a] μ=
 cond (decide ((1320 : Int) < (List.length a : Int))) (
 some (.ret (LV.int .i64 (8:Int)) μ)) (
 callK (ρ.call 167 [LV.str a] μ) (fun v1 μ2 =>
 opt (aM v1) fun b5=>
 cond (!b5) (
 some (.ret (LV.int .i64 (3:Int)) μ2)) (
 some (.ret (LV.int .i64 (0:Int)) μ2))) pP):=by kernel_rfl
def Jn (x0l x0i:Nat)(x2 o0_0:Int):SegD:=⟨mN,[(0,0),(2,0),(3,0),(6,0)],cA 152 [1,1,0,0],mS [(0,LV.cv (CV.ref x0l x0i 0)),(2,LV.int .i64 x2),(3,LV.loc 0 0),(6,LV.lclo 168 [LV.loc 0 0])] [Ob.cells [LV.int .i64 o0_0]]⟩
def CK (x0l x0i:Nat)(x2 o0_0:Int)(μ:Mu):=(Jn x0l x0i x2 o0_0).loop ρ μ
def DE (x0l x0i:Nat)(x2 o0_0:Int):SegD:=⟨mN,[(0,0),(2,0),(3,0),(6,0)],cA 152 [1,1,0,0,0,0,0,0],mS [(0,LV.cv (CV.ref x0l x0i 0)),(2,LV.int .i64 x2),(3,LV.loc 0 0),(6,LV.lclo 168 [LV.loc 0 0])] [Ob.cells [LV.int .i64 o0_0]]⟩
def z7 (x0l x0i:Nat)(x2 o0_0:Int)(μ:Mu):=(DE x0l x0i x2 o0_0).loop ρ μ
def m5 (x0l x0i:Nat)(x2 o0_0:Int)(μ:Mu):St:= .exit 2 (mS [(0,LV.cv (CV.ref x0l x0i 0)),(2,LV.int .i64 x2),(3,LV.loc 0 0),(6,LV.lclo 168 [LV.loc 0 0])] [Ob.cells [LV.int .i64 o0_0]]) μ
def tz (x2 o0_0:Int)(μ:Mu):St:= .ret (mS [(2,LV.int .i64 x2),(3,LV.loc 0 0),(6,LV.lclo 168 [LV.loc 0 0])] [Ob.cells [LV.int .i64 o0_0]]) μ
def IG (x0l x0i:Nat)(x2 o0_0:Int):SegD:=⟨mN,[(0,0),(2,0),(3,0),(6,0)],cA 152 [1,1,0,0,0,1,1],mS [(0,LV.cv (CV.ref x0l x0i 0)),(2,LV.int .i64 x2),(3,LV.loc 0 0),(6,LV.lclo 168 [LV.loc 0 0])] [Ob.cells [LV.int .i64 o0_0]]⟩
def Cu (x0l x0i:Nat)(x2 o0_0:Int)(μ:Mu):=(IG x0l x0i x2 o0_0).seg ρ μ
def sQ (x0l x0i:Nat)(x2 o0_0:Int)(μ:Mu):St:= .norm (mS [(0,LV.cv (CV.ref x0l x0i 0)),(2,LV.int .i64 x2),(3,LV.loc 0 0),(6,LV.lclo 168 [LV.loc 0 0])] [Ob.cells [LV.int .i64 o0_0]]) μ
def sR (pv:CV)(x2 o0_0:Int)(μ:Mu):St:= .panic pv (mS [(2,LV.int .i64 x2),(3,LV.loc 0 0),(6,LV.lclo 168 [LV.loc 0 0])] [Ob.cells [LV.int .i64 o0_0]]) μ
def tA (pv:CV)(x2 o0_0:Int)(μ:Mu):St:= .panic pv (mS [(2,LV.int .i64 x2),(3,LV.loc 0 0),(6,LV.lclo 168 [LV.loc 0 0])] [Ob.cells [LV.int .i64 o0_0]]) μ
theorem Bn (x0l x0i x2 o0_0 μ):(DE x0l x0i x2 o0_0).rK ρ μ=
 opt (bv E.P 9 (aU μ x0l x0i) 0) fun v1=>
 opt (aN v1) fun s2=>
 cond (decide (x2 < (List.length s2 : Int))) (
 opt (bv E.P 9 (aU μ x0l x0i) 0) fun v3=>
 opt (aN v3) fun s4=>
 opt (bu s4 x2) fun y5=>
 cond (decide ((y5.toNat : Int) = (32 : Int))) (
 z7 ρ x0l x0i (IntKind.wrap .i64 (x2+(1:Int))) o0_0 μ) (
 some (m5 x0l x0i x2 o0_0 μ))) (
 some (m5 x0l x0i x2 o0_0 μ)):=by kernel_rfl
theorem Ef (x0l x0i x2 o0_0 μ):(IG x0l x0i x2 o0_0).sK ρ μ=
 callK (ρ.call 169 [LV.cv (CV.ref x0l x0i 0), LV.int .i64 x2] μ) (fun v8 μ9 =>
 opt (aT v8) fun xs12=>
 opt (aw xs12) fun q13=>
 ig q13.1 fun n14 n15 s16=>
 opt (aw q13.2) fun q17=>
 opt (aC .i64 q17.1) fun n18=>
 opt (aO q17.2) fun u19=>
 opt (gc E.P 35 (aU μ9 x0l x0i) 2) fun r20=>
 opt (gM r20.1) fun l21=>
 ax (dQ 3 l21 [CV.agg [CV.int .i64 n14, CV.int .i64 n15, CV.str s16]]) (
 ax (b7 (x0l + 1) (l21 ++ [CV.agg [CV.int .i64 n14, CV.int .i64 n15, CV.str s16]])) (
 opt (dY E.P 35 (aU (bj μ9 x0l x0i r20.2) x0l x0i) 2 (LV.osl (l21++[CV.agg [CV.int .i64 n14,CV.int .i64 n15,CV.str s16]]))) fun o22=>
 some (sQ x0l x0i n18 o0_0 (bj (bj μ9 x0l x0i r20.2) x0l x0i o22))))) (fun v11 μ10=>
 some (sR v11 x2 o0_0 μ10)):=by kernel_rfl
theorem GF (x0l x0i x2 o0_0 μ):kR ρ mN [.block 1] [(0,0),(2,0),(3,0),(6,0)] (cA 152 [1,1,0,0]) (sQ x0l x0i x2 o0_0 μ)=
 CK ρ x0l x0i x2 o0_0 μ:=by kernel_rfl
theorem GG (pv x2 o0_0 μ):kR ρ mN [.block 1] [(0,0),(2,0),(3,0),(6,0)] (cA 152 [1,1,0,0]) (sR pv x2 o0_0 μ)=
 some (tA pv x2 o0_0 μ):=by kernel_rfl
theorem EZ (x0l x0i x2 o0_0 μ):kR ρ mN [.block 2,.seq (cA 152 [1,1,0,0,0,1]),.block 1] [(0,0),(2,0),(3,0),(6,0)] (cA 152 [1,1,0,0]) (m5 x0l x0i x2 o0_0 μ)=
 opt (bv E.P 9 (aU μ x0l x0i) 0) fun v6=>
 opt (aN v6) fun s7=>
 cond (decide ((List.length s7 : Int) ≤ x2)) (
 some (tz (0:Int) (0:Int) μ)) (
 opt (Cu ρ x0l x0i x2 o0_0 μ) (kR ρ mN [.block 1] [(0,0),(2,0),(3,0),(6,0)] (cA 152 [1,1,0,0]))):=by kernel_rfl
theorem RX (x0l x0i x2 o0_0 μ):(Jn x0l x0i x2 o0_0).rK ρ μ=
 opt (z7 ρ x0l x0i x2 o0_0 μ) (kR ρ mN [.block 2,.seq (cA 152 [1,1,0,0,0,1]),.block 1] [(0,0),(2,0),(3,0),(6,0)] (cA 152 [1,1,0,0])):=by kernel_rfl
theorem Hv (x2 o0_0 μ):jz E.P ρ mN [.block 0] (tz x2 o0_0 μ) (Aj E.P ρ 6 (Cl E.P 152))=
 opt (ρ.dcall 168 none [LV.cv (CV.ref (List.length μ) 0 0)] (μ++[[Ob.cells [LV.int .i64 o0_0]]])) fun μ25=>
 opt (jp μ25) fun q26=>
 opt (opt (opt (bv E.P 25 (aG q26.2 0) 0) fun v27 =>
 some [v27]) fun l28=>some (LV.int .i64 x2::l28)) fun l29=>ax (p6 (eH l29)) (ax (gn (List.length q26.1) (eH l29)) (some (.ret (eH l29) q26.1))):=by kernel_rfl
theorem Hw (pv x2 o0_0 μ):jz E.P ρ mN [.block 0] (tA pv x2 o0_0 μ) (Aj E.P ρ 6 (Cl E.P 152))=
 opt (ρ.dcall 168 (some pv) [LV.cv (CV.ref (List.length μ) 0 0)] (μ++[[Ob.cells [LV.int .i64 o0_0]]])) fun μ30=>
 opt (jp μ30) fun q31=>
 opt (opt (opt (bv E.P 25 (aG q31.2 0) 0) fun v32 =>
 some [v32]) fun l33=>some (LV.int .i64 x2::l33)) fun l34=>ax (p6 (eH l34)) (ax (gn (List.length q31.1) (eH l34)) (some (.ret (eH l34) q31.1))):=by kernel_rfl
theorem XC (al ai μ):aD E ρ 152 [LV.cv (CV.ref al ai 0)] μ=
 opt (CK ρ al ai (0:Int) (0:Int) μ) fun st35=>jz E.P ρ mN [.block 0] st35 (Aj E.P ρ 6 (Cl E.P 152)):=by kernel_rfl
theorem XD (a μ):aD E ρ 160 [LV.int .u8 a] μ=
 cond (decide ((48 : Int) ≤ a)) (
 some (.ret (LV.bool (decide (a≤(57:Int)))) μ)) (
 some (.ret (LV.bool false) μ)):=by kernel_rfl
def Jo (x0:Int)(x1:List UInt8)(x8:List CV)(x9:Int):SegD:=⟨CB,[],cA 163 [1,0,1,0,0],mS [(0,LV.int .i64 x0),(1,LV.str x1),(8,LV.cv (CV.agg x8)),(9,LV.int .i64 x9)] []⟩
def pJ (x0:Int)(x1:List UInt8)(x8:List CV)(x9:Int)(μ:Mu):=(Jo x0 x1 x8 x9).loop ρ μ
def tB (x4:Int)(x5:Bool)(μ:Mu):St:= .ret (mS [(4,LV.int .i64 x4),(5,LV.bool x5)] []) μ
def tC (μ:Mu):St:= .exit 0 (mS [] []) μ
theorem Ev (x0 x1 x8 x9 μ):(Jo x0 x1 x8 x9).rK ρ μ=
 cond (decide (x9 < (25 : Int))) (
 ax (bW x9 25) (
 opt (el E.P 113 x8 (Int.toNat x9*5)) fun c6=>
 dm (LV.cv c6) fun n7 n8 n9 l10 s11=>
 cond (decide (n9 = (2 : Int))) (
 cond (!decide (s11 = ([] : List UInt8))) (
 cond (decide (n7 = x0)) (
 cond (decide (s11 = x1)) (
 some (tB x9 true μ)) (
 pJ ρ x0 x1 x8 (IntKind.wrap .i64 (x9+(1:Int))) μ)) (
 pJ ρ x0 x1 x8 (IntKind.wrap .i64 (x9+(1:Int))) μ)) (
 pJ ρ x0 x1 x8 (IntKind.wrap .i64 (x9+(1:Int))) μ)) (
 pJ ρ x0 x1 x8 (IntKind.wrap .i64 (x9+(1:Int))) μ))) (
 some (tC μ)):=by kernel_rfl
theorem Hx (x4 x5 μ):kB ρ 163 CB [.block 0,.seq (cA 163 [1,1])] (tB x4 x5 μ)=
 some (.ret (LV.ltup [LV.int .i64 x4,LV.bool x5]) μ):=by kernel_rfl
theorem Hy (μ):kB ρ 163 CB [.block 0,.seq (cA 163 [1,1])] (tC μ)=
 some (.ret (LV.ltup [LV.int .i64 (0:Int),LV.bool false]) μ):=by kernel_rfl
theorem XE (a b μ):aD E ρ 163 [LV.int .i64 a,LV.str b] μ=
 callK (ρ.call 69 [] μ) (fun v1 μ2 =>
 opt (cU v1) fun cs5=>
 opt (pJ ρ a b cs5 (0:Int) μ2) (kB ρ 163 CB [.block 0,.seq (cA 163 [1,1])])) pP:=by kernel_rfl
theorem XF (a μ):aD E ρ 167 [LV.str a] μ=
 callK (ρ.call 131 [LV.str a, LV.cv (CV.clo 186 [])] μ) (fun v1 μ2 =>
 opt (aM v1) fun b5=>
 some (.ret (LV.bool (!b5)) μ2)) pP:=by kernel_rfl
theorem T8 (al ai μ):gY E ρ 168 none [LV.cv (CV.ref al ai 0)] μ=
 some μ:=by kernel_rfl
theorem T9 (e al ai μ):gY E ρ 168 (some (CV.iface 191 (CV.agg [CV.int .i64 e]))) [LV.cv (CV.ref al ai 0)] μ=
 opt (dY E.P 25 (aU μ al ai) 0 (LV.int .i64 e)) fun o1=>
 some (bj μ al ai o1):=by kernel_rfl
def IH (x0l x0i:Nat)(x1 x6 o0_0 o0_1:Int)(o0_2:List UInt8):SegD:=⟨e7,[(4,0),(5,0)],cA 169 [1,1,1],mS [(0,LV.cv (CV.ref x0l x0i 0)),(1,LV.int .i64 x1),(4,LV.loc 0 0),(6,LV.int .u8 x6)] [Ob.cells [LV.int .i64 o0_0,LV.int .i64 o0_1,LV.str o0_2]]⟩
def su (x0l x0i:Nat)(x1 x6 o0_0 o0_1:Int)(o0_2:List UInt8)(μ:Mu):=(IH x0l x0i x1 x6 o0_0 o0_1 o0_2).seg ρ μ
def cN (x5 o0_0 o0_1:Int)(o0_2:List UInt8)(μ:Mu):St:= .ret (mS [(4,LV.loc 0 0),(5,LV.int .i64 x5)] [Ob.cells [LV.int .i64 o0_0,LV.int .i64 o0_1,LV.str o0_2]]) μ
def bF (pv:CV)(μ:Mu):St:= .panic pv (mS [] []) μ
def Du (x14:List UInt8)(x15 o0_0 o0_1:Int)(o0_2:List UInt8):SegD:=⟨e7,[(0,0),(1,0),(4,0)],cA 169 [1,1,1,1,0,0,1,1,1,1,1,0,1,1],mS [(4,LV.loc 0 0),(14,LV.str x14),(15,LV.int .i64 x15)] [Ob.cells [LV.int .i64 o0_0,LV.int .i64 o0_1,LV.str o0_2]]⟩
def jU (x14:List UInt8)(x15 o0_0 o0_1:Int)(o0_2:List UInt8)(μ:Mu):=(Du x14 x15 o0_0 o0_1 o0_2).seg ρ μ
def ky (x5 o0_0 o0_1:Int)(o0_2:List UInt8)(μ:Mu):St:= .ret (mS [(4,LV.loc 0 0),(5,LV.int .i64 x5)] [Ob.cells [LV.int .i64 o0_0,LV.int .i64 o0_1,LV.str o0_2]]) μ
def Dv (x0l x0i:Nat)(x1 o0_0 o0_1:Int)(o0_2:List UInt8):SegD:=⟨e7,[(4,0),(5,0)],cA 169 [1,1,1,1,1],mS [(0,LV.cv (CV.ref x0l x0i 0)),(1,LV.int .i64 x1),(4,LV.loc 0 0)] [Ob.cells [LV.int .i64 o0_0,LV.int .i64 o0_1,LV.str o0_2]]⟩
def pC (x0l x0i:Nat)(x1 o0_0 o0_1:Int)(o0_2:List UInt8)(μ:Mu):=(Dv x0l x0i x1 o0_0 o0_1 o0_2).seg ρ μ
def qD (x5 o0_0 o0_1:Int)(o0_2:List UInt8)(μ:Mu):St:= .ret (mS [(4,LV.loc 0 0),(5,LV.int .i64 x5)] [Ob.cells [LV.int .i64 o0_0,LV.int .i64 o0_1,LV.str o0_2]]) μ
def qE (pv:CV)(μ:Mu):St:= .panic pv (mS [] []) μ
theorem PC (x14 x15 o0_0 o0_1 o0_2 μ):(Du x14 x15 o0_0 o0_1 o0_2).sK ρ μ=
 cond (decide (x14 = ([46, 84, 82, 85, 69, 46] : List UInt8))) (
 some (ky x15 (1:Int) (5:Int) x14 μ)) (
 cond (decide (x14 = ([46, 70, 65, 76, 83, 69, 46] : List UInt8))) (
 some (ky x15 (1:Int) (5:Int) x14 μ)) (
 some (ky x15 (2:Int) (0:Int) x14 μ))):=by kernel_rfl
theorem EO (x5 o0_0 o0_1 o0_2 μ):kS ρ e7 [.block 0,.seq (cA 169 [1,1,1,1,1])] [(4,0),(5,0)] (ky x5 o0_0 o0_1 o0_2 μ)=
 some (cN x5 o0_0 o0_1 o0_2 μ):=by kernel_rfl
theorem PD (x0l x0i x1 o0_0 o0_1 o0_2 μ):(Dv x0l x0i x1 o0_0 o0_1 o0_2).sK ρ μ=
 callK (ρ.call 195 [LV.cv (CV.ref x0l x0i 0), LV.int .i64 x1] μ) (fun v147 μ148 =>
 opt (aT v147) fun xs151=>
 opt (aw xs151) fun q152=>
 ig q152.1 fun n153 n154 s155=>
 opt (aw q152.2) fun q156=>
 opt (aC .i64 q156.1) fun n157=>
 opt (aO q156.2) fun u158=>
 some (qD n157 n153 n154 s155 μ148)) (pX qE):=by kernel_rfl
theorem EP (x5 o0_0 o0_1 o0_2 μ):kS ρ e7 [] [(4,0),(5,0)] (qD x5 o0_0 o0_1 o0_2 μ)=
 some (cN x5 o0_0 o0_1 o0_2 μ):=by kernel_rfl
theorem EQ (pv μ):kS ρ e7 [] [(4,0),(5,0)] (qE pv μ)=
 some (bF pv μ):=by kernel_rfl
theorem Rz (x0l x0i x1 x6 o0_0 o0_1 o0_2 μ):(IH x0l x0i x1 x6 o0_0 o0_1 o0_2).sK ρ μ=
 callK (ρ.call 189 [LV.cv (CV.ref x0l x0i 0), LV.int .i64 (IntKind.wrap .i64 (x1 + (1 : Int)))] μ) (fun v28 μ29 =>
 opt (aT v28) fun xs32=>
 opt (aw xs32) fun q33=>
 opt (aC .u8 q33.1) fun n34=>
 opt (aw q33.2) fun q35=>
 opt (aC .i64 q35.1) fun n36=>
 opt (aO q35.2) fun u37=>
 callK (ρ.call 135 [LV.int .u8 x6] μ29) (fun v38 μ39 =>
 opt (aM v38) fun b42=>
 cond (b42) (
 callK (ρ.call 190 [LV.cv (CV.ref x0l x0i 0), LV.int .i64 x1, LV.cv (CV.clo 138 [])] μ39) (fun v43 μ44 =>
 opt (aT v43) fun xs47=>
 opt (aw xs47) fun q48=>
 opt (aN q48.1) fun s49=>
 opt (aw q48.2) fun q50=>
 opt (aC .i64 q50.1) fun n51=>
 opt (aO q50.2) fun u52=>
 cond (decide ((31 : Int) < (List.length s49 : Int))) (
 callK (ρ.call 191 [LV.int .i64 (4 : Int)] μ44) (fun v53 μ54 =>
 opt (aT v53) fun xs57=>
 opt (aO xs57) fun u58=>
 callK (ρ.call 136 [LV.str s49] μ54) (fun v59 μ60 =>
 opt (aN v59) fun s63=>
 some (cN n51 (0:Int) (0:Int) s63 μ60)) (pX bF)) (pX bF)) (
 callK (ρ.call 136 [LV.str s49] μ44) (fun v64 μ65 =>
 opt (aN v64) fun s68=>
 some (cN n51 (0:Int) (0:Int) s68 μ65)) (pX bF))) (pX bF)) (
 callK (ρ.call 160 [LV.int .u8 x6] μ39) (fun v69 μ70 =>
 opt (aM v69) fun b73=>
 cond (b73) (
 callK (ρ.call 192 [LV.cv (CV.ref x0l x0i 0), LV.int .i64 x1] μ70) (fun v74 μ75 =>
 opt (aT v74) fun xs78=>
 opt (aw xs78) fun q79=>
 ig q79.1 fun n80 n81 s82=>
 opt (aw q79.2) fun q83=>
 opt (aC .i64 q83.1) fun n84=>
 opt (aO q83.2) fun u85=>
 some (cN n84 n80 n81 s82 μ75)) (pX bF)) (
 cond (decide (x6 = (46 : Int))) (
 callK (ρ.call 160 [LV.int .u8 n34] μ70) (fun v86 μ87 =>
 opt (aM v86) fun b90=>
 cond (b90) (
 callK (ρ.call 192 [LV.cv (CV.ref x0l x0i 0), LV.int .i64 x1] μ87) (fun v91 μ92 =>
 opt (aT v91) fun xs95=>
 opt (aw xs95) fun q96=>
 ig q96.1 fun n97 n98 s99=>
 opt (aw q96.2) fun q100=>
 opt (aC .i64 q100.1) fun n101=>
 opt (aO q100.2) fun u102=>
 some (cN n101 n97 n98 s99 μ92)) (pX bF)) (
 cond (decide (x6 = (46 : Int))) (
 callK (ρ.call 193 [LV.cv (CV.ref x0l x0i 0), LV.int .i64 x1] μ87) (fun v103 μ104 =>
 opt (aT v103) fun xs107=>
 opt (aw xs107) fun q108=>
 opt (aN q108.1) fun s109=>
 opt (aw q108.2) fun q110=>
 opt (aC .i64 q110.1) fun n111=>
 opt (aw q110.2) fun q112=>
 opt (aM q112.1) fun b113=>
 opt (aO q112.2) fun u114=>
 cond (!b113) (
 callK (ρ.call 191 [LV.int .i64 (7 : Int)] μ104) (fun v115 μ116 =>
 opt (aT v115) fun xs119=>
 opt (aO xs119) fun u120=>
 opt (jU ρ s109 n111 o0_0 o0_1 o0_2 μ116) (kS ρ e7 [.block 0,.seq (cA 169 [1,1,1,1,1])] [(4,0),(5,0)])) (pX bF)) (
 opt (jU ρ s109 n111 o0_0 o0_1 o0_2 μ104) (kS ρ e7 [.block 0,.seq (cA 169 [1,1,1,1,1])] [(4,0),(5,0)]))) (pX bF)) (
 cond (decide (x6 = (39 : Int))) (
 callK (ρ.call 194 [LV.cv (CV.ref x0l x0i 0), LV.int .i64 x1] μ87) (fun v123 μ124 =>
 opt (aT v123) fun xs127=>
 opt (aw xs127) fun q128=>
 ig q128.1 fun n129 n130 s131=>
 opt (aw q128.2) fun q132=>
 opt (aC .i64 q132.1) fun n133=>
 opt (aO q132.2) fun u134=>
 some (cN n133 n129 n130 s131 μ124)) (pX bF)) (
 cond (decide (x6 = (34 : Int))) (
 callK (ρ.call 194 [LV.cv (CV.ref x0l x0i 0), LV.int .i64 x1] μ87) (fun v135 μ136 =>
 opt (aT v135) fun xs139=>
 opt (aw xs139) fun q140=>
 ig q140.1 fun n141 n142 s143=>
 opt (aw q140.2) fun q144=>
 opt (aC .i64 q144.1) fun n145=>
 opt (aO q144.2) fun u146=>
 some (cN n145 n141 n142 s143 μ136)) (pX bF)) (
 opt (pC ρ x0l x0i x1 o0_0 o0_1 o0_2 μ87) (kS ρ e7 [] [(4,0),(5,0)])))))) (pX bF)) (
 cond (decide (x6 = (46 : Int))) (
 callK (ρ.call 193 [LV.cv (CV.ref x0l x0i 0), LV.int .i64 x1] μ70) (fun v160 μ161 =>
 opt (aT v160) fun xs164=>
 opt (aw xs164) fun q165=>
 opt (aN q165.1) fun s166=>
 opt (aw q165.2) fun q167=>
 opt (aC .i64 q167.1) fun n168=>
 opt (aw q167.2) fun q169=>
 opt (aM q169.1) fun b170=>
 opt (aO q169.2) fun u171=>
 cond (!b170) (
 callK (ρ.call 191 [LV.int .i64 (7 : Int)] μ161) (fun v172 μ173 =>
 opt (aT v172) fun xs176=>
 opt (aO xs176) fun u177=>
 opt (jU ρ s166 n168 o0_0 o0_1 o0_2 μ173) (kS ρ e7 [.block 0,.seq (cA 169 [1,1,1,1,1])] [(4,0),(5,0)])) (pX bF)) (
 opt (jU ρ s166 n168 o0_0 o0_1 o0_2 μ161) (kS ρ e7 [.block 0,.seq (cA 169 [1,1,1,1,1])] [(4,0),(5,0)]))) (pX bF)) (
 cond (decide (x6 = (39 : Int))) (
 callK (ρ.call 194 [LV.cv (CV.ref x0l x0i 0), LV.int .i64 x1] μ70) (fun v180 μ181 =>
 opt (aT v180) fun xs184=>
 opt (aw xs184) fun q185=>
 ig q185.1 fun n186 n187 s188=>
 opt (aw q185.2) fun q189=>
 opt (aC .i64 q189.1) fun n190=>
 opt (aO q189.2) fun u191=>
 some (cN n190 n186 n187 s188 μ181)) (pX bF)) (
 cond (decide (x6 = (34 : Int))) (
 callK (ρ.call 194 [LV.cv (CV.ref x0l x0i 0), LV.int .i64 x1] μ70) (fun v192 μ193 =>
 opt (aT v192) fun xs196=>
 opt (aw xs196) fun q197=>
 ig q197.1 fun n198 n199 s200=>
 opt (aw q197.2) fun q201=>
 opt (aC .i64 q201.1) fun n202=>
 opt (aO q201.2) fun u203=>
 some (cN n202 n198 n199 s200 μ193)) (pX bF)) (
 opt (pC ρ x0l x0i x1 o0_0 o0_1 o0_2 μ70) (kS ρ e7 [] [(4,0),(5,0)]))))))) (pX bF))) (pX bF)) (pX bF):=by kernel_rfl
theorem GH (x5 o0_0 o0_1 o0_2 μ):kB ρ 169 e7 [] (cN x5 o0_0 o0_1 o0_2 μ)=
 some (.ret (LV.ltup [LV.cv (CV.agg [CV.int .i64 o0_0,CV.int .i64 o0_1,CV.str o0_2]),LV.int .i64 x5]) μ):=by kernel_rfl
theorem GI (pv μ):kB ρ 169 e7 [] (bF pv μ)=
 ax (below (List.length μ) pv) (some (.panic pv μ)):=by kernel_rfl
theorem XG (al ai b μ):aD E ρ 169 [LV.cv (CV.ref al ai 0),LV.int .i64 b] μ=
 opt (bv E.P 9 (aU μ al ai) 0) fun v1=>
 opt (aN v1) fun s2=>
 opt (bu s2 b) fun y3=>
 callK (ρ.call 187 [LV.cv (CV.ref al ai 0)] μ) (fun v4 μ5 =>
 opt (aM v4) fun b8=>
 cond (b8) (
 callK (ρ.call 160 [LV.int .u8 (y3.toNat : Int)] μ5) (fun v9 μ10 =>
 opt (aM v9) fun b13=>
 cond (b13) (
 callK (ρ.call 188 [LV.cv (CV.ref al ai 0), LV.int .i64 b] μ10) (fun v14 μ15 =>
 opt (aT v14) fun xs18=>
 opt (aw xs18) fun q19=>
 ig q19.1 fun n20 n21 s22=>
 opt (aw q19.2) fun q23=>
 opt (aC .i64 q23.1) fun n24=>
 opt (aw q23.2) fun q25=>
 opt (aM q25.1) fun b26=>
 opt (aO q25.2) fun u27=>
 cond (b26) (
 some (.ret (LV.ltup [LV.cv (CV.agg [CV.int .i64 n20,CV.int .i64 n21,CV.str s22]),LV.int .i64 n24]) μ15)) (
 opt (su ρ al ai b (y3.toNat:Int) (0:Int) (0:Int) ([]:List UInt8) μ15) (kB ρ 169 e7 []))) pP) (
 opt (su ρ al ai b (y3.toNat:Int) (0:Int) (0:Int) ([]:List UInt8) μ10) (kB ρ 169 e7 []))) pP) (
 opt (su ρ al ai b (y3.toNat:Int) (0:Int) (0:Int) ([]:List UInt8) μ5) (kB ρ 169 e7 []))) pP:=by kernel_rfl
def II (x0l x0i:Nat):SegD:=⟨wF,[(2,0)],cA 187 [1,1],mS [(0,LV.cv (CV.ref x0l x0i 0))] []⟩
def MR (x0l x0i:Nat)(μ:Mu):=(II x0l x0i).seg ρ μ
def oA (x2:Bool)(μ:Mu):St:= .ret (mS [(2,LV.bool x2)] []) μ
def IJ (x0l x0i:Nat):SegD:=⟨wF,[(2,0)],cA 187 [1,1,1],mS [(0,LV.cv (CV.ref x0l x0i 0))] []⟩
def MS (x0l x0i:Nat)(μ:Mu):=(IJ x0l x0i).seg ρ μ
def oB (x2:Bool)(μ:Mu):St:= .ret (mS [(2,LV.bool x2)] []) μ
def Nh (pv:CV)(μ:Mu):St:= .panic pv (mS [] []) μ
theorem RB (x0l x0i μ):(IJ x0l x0i).sK ρ μ=
 opt (bv E.P 35 (aU μ x0l x0i) 2) fun v5=>
 opt (bp v5) fun l6=>
 opt (bv E.P 35 (aU μ x0l x0i) 2) fun v7=>
 opt (bp v7) fun l8=>
 opt (bm l6 (IntKind.wrap .i64 ((List.length l8:Int) -(1:Int)))) fun c9=>
 ig (LV.cv c9) fun n10 n11 s12=>
 cond (decide (n10 = (2 : Int))) (
 callK (ρ.call 82 [LV.osl [CV.str ([40] : List UInt8), CV.str ([44] : List UInt8), CV.str ([47] : List UInt8), CV.str ([61] : List UInt8)], LV.str s12] μ) (fun v13 μ14 =>
 opt (aM v13) fun b17=>
 some (oB b17 μ14)) (pX Nh)) (
 some (oB false μ)):=by kernel_rfl
theorem GK (x2 μ):kS ρ wF [] [(2,0)] (oB x2 μ)=
 some (oA x2 μ):=by kernel_rfl
theorem RA (x0l x0i μ):(II x0l x0i).sK ρ μ=
 opt (bv E.P 35 (aU μ x0l x0i) 2) fun v3=>
 opt (bp v3) fun l4=>
 cond (decide ((List.length l4 : Int) = (0 : Int))) (
 some (oA true μ)) (
 opt (MS ρ x0l x0i μ) (kS ρ wF [] [(2,0)])):=by kernel_rfl
theorem GJ (x2 μ):kB ρ 187 wF [] (oA x2 μ)=
 some (.ret (LV.bool x2) μ):=by kernel_rfl
theorem XH (al ai μ):aD E ρ 187 [LV.cv (CV.ref al ai 0)] μ=
 opt (bv E.P 4 (aU μ al ai) 1) fun v1=>
 opt (aM v1) fun b2=>
 cond (!b2) (
 some (.ret (LV.bool false) μ)) (
 opt (MR ρ al ai μ) (kB ρ 187 wF [])):=by kernel_rfl
def IK (x0l x0i:Nat)(x10 x11 o0_0 o0_1:Int)(o0_2:List UInt8):SegD:=⟨nv,[(4,0),(5,0),(6,0)],cA 188 [1,1,1,1,1],mS [(0,LV.cv (CV.ref x0l x0i 0)),(4,LV.loc 0 0),(10,LV.int .i64 x10),(11,LV.int .i64 x11)] [Ob.cells [LV.int .i64 o0_0,LV.int .i64 o0_1,LV.str o0_2]]⟩
def xN (x0l x0i:Nat)(x10 x11 o0_0 o0_1:Int)(o0_2:List UInt8)(μ:Mu):=(IK x0l x0i x10 x11 o0_0 o0_1 o0_2).seg ρ μ
def IL (x0l x0i:Nat)(x10 x11 o0_0 o0_1:Int)(o0_2:List UInt8):SegD:=⟨nv,[(4,0),(5,0),(6,0)],cA 188 [1,1,1,1,1,1],mS [(0,LV.cv (CV.ref x0l x0i 0)),(4,LV.loc 0 0),(10,LV.int .i64 x10),(11,LV.int .i64 x11)] [Ob.cells [LV.int .i64 o0_0,LV.int .i64 o0_1,LV.str o0_2]]⟩
def Cv (x0l x0i:Nat)(x10 x11 o0_0 o0_1:Int)(o0_2:List UInt8)(μ:Mu):=(IL x0l x0i x10 x11 o0_0 o0_1 o0_2).seg ρ μ
def sU (x5:Int)(x6:Bool)(o0_0 o0_1:Int)(o0_2:List UInt8)(μ:Mu):St:= .ret (mS [(4,LV.loc 0 0),(5,LV.int .i64 x5),(6,LV.bool x6)] [Ob.cells [LV.int .i64 o0_0,LV.int .i64 o0_1,LV.str o0_2]]) μ
def AQ (pv:CV)(μ:Mu):St:= .panic pv (mS [] []) μ
def sS (x5:Int)(x6:Bool)(o0_0 o0_1:Int)(o0_2:List UInt8)(μ:Mu):St:= .ret (mS [(4,LV.loc 0 0),(5,LV.int .i64 x5),(6,LV.bool x6)] [Ob.cells [LV.int .i64 o0_0,LV.int .i64 o0_1,LV.str o0_2]]) μ
def sT (pv:CV)(μ:Mu):St:= .panic pv (mS [] []) μ
theorem RD (x0l x0i x10 x11 o0_0 o0_1 o0_2 μ):(IL x0l x0i x10 x11 o0_0 o0_1 o0_2).sK ρ μ=
 callK (ρ.call 205 [LV.cv (CV.ref x0l x0i 0), LV.int .i64 x10, LV.int .i64 (IntKind.wrap .i64 (x10 + x11))] μ) (fun v39 μ40 =>
 opt (aT v39) fun xs43=>
 opt (aO xs43) fun u44=>
 opt (bv E.P 9 (aU μ40 x0l x0i) 0) fun v45=>
 opt (aN v45) fun s46=>
 opt (dB s46 x10 (IntKind.wrap .i64 (x10+x11))) fun s47=>
 callK (ρ.call 206 [LV.str s47] μ40) (fun v48 μ49 =>
 ig v48 fun n52 n53 s54=>
 some (sU (IntKind.wrap .i64 (x10+x11)) true n52 n53 s54 μ49)) (pX AQ)) (pX AQ):=by kernel_rfl
theorem GN (x5 x6 o0_0 o0_1 o0_2 μ):kS ρ nv [] [(4,0),(5,0),(6,0)] (sU x5 x6 o0_0 o0_1 o0_2 μ)=
 some (sS x5 x6 o0_0 o0_1 o0_2 μ):=by kernel_rfl
theorem RC (x0l x0i x10 x11 o0_0 o0_1 o0_2 μ):(IK x0l x0i x10 x11 o0_0 o0_1 o0_2).sK ρ μ=
 opt (bv E.P 9 (aU μ x0l x0i) 0) fun v31=>
 opt (aN v31) fun s32=>
 cond (decide ((List.length s32 : Int) < IntKind.wrap .i64 (x10 + x11))) (
 callK (ρ.call 191 [LV.int .i64 (7 : Int)] μ) (fun v33 μ34 =>
 opt (aT v33) fun xs37=>
 opt (aO xs37) fun u38=>
 opt (Cv ρ x0l x0i x10 x11 o0_0 o0_1 o0_2 μ34) (kS ρ nv [] [(4,0),(5,0),(6,0)])) (pX sT)) (
 opt (Cv ρ x0l x0i x10 x11 o0_0 o0_1 o0_2 μ) (kS ρ nv [] [(4,0),(5,0),(6,0)])):=by kernel_rfl
theorem GL (x5 x6 o0_0 o0_1 o0_2 μ):kB ρ 188 nv [] (sS x5 x6 o0_0 o0_1 o0_2 μ)=
 some (.ret (LV.ltup [LV.cv (CV.agg [CV.int .i64 o0_0,CV.int .i64 o0_1,CV.str o0_2]),LV.int .i64 x5,LV.bool x6]) μ):=by kernel_rfl
theorem GM (pv μ):kB ρ 188 nv [] (sT pv μ)=
 ax (below (List.length μ) pv) (some (.panic pv μ)):=by kernel_rfl
theorem XI (al ai b μ):aD E ρ 188 [LV.cv (CV.ref al ai 0),LV.int .i64 b] μ=
 callK (ρ.call 190 [LV.cv (CV.ref al ai 0), LV.int .i64 b, LV.cv (CV.clo 160 [])] μ) (fun v1 μ2 =>
 opt (aT v1) fun xs5=>
 opt (aw xs5) fun q6=>
 opt (aN q6.1) fun s7=>
 opt (aw q6.2) fun q8=>
 opt (aC .i64 q8.1) fun n9=>
 opt (aO q8.2) fun u10=>
 callK (ρ.call 189 [LV.cv (CV.ref al ai 0), LV.int .i64 n9] μ2) (fun v11 μ12 =>
 opt (aT v11) fun xs15=>
 opt (aw xs15) fun q16=>
 opt (aC .u8 q16.1) fun n17=>
 opt (aw q16.2) fun q18=>
 opt (aC .i64 q18.1) fun n19=>
 opt (aO q18.2) fun u20=>
 callK (ρ.call 133 [LV.str s7] μ12) (fun v21 μ22 =>
 opt (aT v21) fun xs25=>
 opt (aw xs25) fun q26=>
 opt (aC .i64 q26.1) fun n27=>
 opt (aw q26.2) fun q28=>
 opt (bP q28.1) fun c29=>
 opt (aO q28.2) fun u30=>
 cond (decide ((2 : Int) < (List.length s7 : Int))) (
 some (.ret (LV.ltup [LV.cv (CV.agg [CV.int .i64 (0:Int),CV.int .i64 (0:Int),CV.str ([]:List UInt8)]),LV.int .i64 b,LV.bool false]) μ22)) (
 cond (decide (n27 < (1 : Int))) (
 some (.ret (LV.ltup [LV.cv (CV.agg [CV.int .i64 (0:Int),CV.int .i64 (0:Int),CV.str ([]:List UInt8)]),LV.int .i64 b,LV.bool false]) μ22)) (
 cond (decide ((60 : Int) < n27)) (
 some (.ret (LV.ltup [LV.cv (CV.agg [CV.int .i64 (0:Int),CV.int .i64 (0:Int),CV.str ([]:List UInt8)]),LV.int .i64 b,LV.bool false]) μ22)) (
 cond (!decide (n17 = (72 : Int))) (
 cond (!decide (n17 = (104 : Int))) (
 some (.ret (LV.ltup [LV.cv (CV.agg [CV.int .i64 (0:Int),CV.int .i64 (0:Int),CV.str ([]:List UInt8)]),LV.int .i64 b,LV.bool false]) μ22)) (
 opt (xN ρ al ai n19 n27 (0:Int) (0:Int) ([]:List UInt8) μ22) (kB ρ 188 nv []))) (
 opt (xN ρ al ai n19 n27 (0:Int) (0:Int) ([]:List UInt8) μ22) (kB ρ 188 nv [])))))) pP) pP) pP:=by kernel_rfl
def IM (x0l x0i:Nat)(x1:Int):SegD:=⟨KA,[(4,0),(5,0)],cA 189 [1,1,1],mS [(0,LV.cv (CV.ref x0l x0i 0)),(1,LV.int .i64 x1)] []⟩
def MT (x0l x0i:Nat)(x1:Int)(μ:Mu):=(IM x0l x0i x1).seg ρ μ
def sV (x4 x5:Int)(μ:Mu):St:= .ret (mS [(4,LV.int .u8 x4),(5,LV.int .i64 x5)] []) μ
theorem RE (x0l x0i x1 μ):(IM x0l x0i x1).sK ρ μ=
 opt (bv E.P 9 (aU μ x0l x0i) 0) fun v8=>
 opt (aN v8) fun s9=>
 opt (bu s9 x1) fun y10=>
 some (sV (y10.toNat:Int) (IntKind.wrap .i64 (x1+(1:Int))) μ):=by kernel_rfl
theorem GO (x4 x5 μ):kB ρ 189 KA [] (sV x4 x5 μ)=
 some (.ret (LV.ltup [LV.int .u8 x4,LV.int .i64 x5]) μ):=by kernel_rfl
theorem XJ (al ai b μ):aD E ρ 189 [LV.cv (CV.ref al ai 0),LV.int .i64 b] μ=
 callK (ρ.call 207 [LV.cv (CV.ref al ai 0), LV.int .i64 b] μ) (fun v1 μ2 =>
 opt (aC .i64 v1) fun n5=>
 opt (bv E.P 9 (aU μ2 al ai) 0) fun v6=>
 opt (aN v6) fun s7=>
 cond (decide ((List.length s7 : Int) ≤ n5)) (
 some (.ret (LV.ltup [LV.int .u8 (0:Int),LV.int .i64 n5]) μ2)) (
 opt (MT ρ al ai n5 μ2) (kB ρ 189 KA []))) pP:=by kernel_rfl
def Jp (x0l x0i:Nat)(x1:Int)(x2f:FuncId)(x8:List CV):SegD:=⟨wG,[],cA 190 [1,1,0,0],mS [(0,LV.cv (CV.ref x0l x0i 0)),(1,LV.int .i64 x1),(2,LV.cv (CV.clo x2f [])),(8,LV.osl x8)] []⟩
def CM (x0l x0i:Nat)(x1:Int)(x2f:FuncId)(x8:List CV)(μ:Mu):=(Jp x0l x0i x1 x2f x8).loop ρ μ
def oM (x6:List UInt8)(x7:Int)(μ:Mu):St:= .ret (mS [(6,LV.str x6),(7,LV.int .i64 x7)] []) μ
def IN (x0l x0i:Nat)(x2f:FuncId)(x8:List CV)(x9 x10:Int):SegD:=⟨wG,[(0,0),(1,0),(2,0),(8,1)],cA 190 [1,1,0,0,0,1,1],mS [(0,LV.cv (CV.ref x0l x0i 0)),(2,LV.cv (CV.clo x2f [])),(8,LV.osl x8),(9,LV.int .u8 x9),(10,LV.int .i64 x10)] []⟩
def MU (x0l x0i:Nat)(x2f:FuncId)(x8:List CV)(x9 x10:Int)(μ:Mu):=(IN x0l x0i x2f x8 x9 x10).seg ρ μ
def sW (x0l x0i:Nat)(x1:Int)(x2f:FuncId)(x8:List CV)(μ:Mu):St:= .norm (mS [(0,LV.cv (CV.ref x0l x0i 0)),(1,LV.int .i64 x1),(2,LV.cv (CV.clo x2f [])),(8,LV.osl x8)] []) μ
def AT (pv:CV)(μ:Mu):St:= .panic pv (mS [] []) μ
theorem RF (x0l x0i x2f x8 x9 x10 μ):(IN x0l x0i x2f x8 x9 x10).sK ρ μ=
 ax (dQ 1 x8 [CV.int .u8 x9]) (
 some (sW x0l x0i x10 x2f (x8++[CV.int .u8 x9]) μ)):=by kernel_rfl
theorem GP (x0l x0i x1 x2f x8 μ):kR ρ wG [.block 1] [] (cA 190 [1,1,0,0]) (sW x0l x0i x1 x2f x8 μ)=
 CM ρ x0l x0i x1 x2f x8 μ:=by kernel_rfl
theorem Ew (x0l x0i x1 x2f x8 μ):(Jp x0l x0i x1 x2f x8).rK ρ μ=
 callK (ρ.call 189 [LV.cv (CV.ref x0l x0i 0), LV.int .i64 x1] μ) (fun v1 μ2 =>
 opt (aT v1) fun xs5=>
 opt (aw xs5) fun q6=>
 opt (aC .u8 q6.1) fun n7=>
 opt (aw q6.2) fun q8=>
 opt (aC .i64 q8.1) fun n9=>
 opt (aO q8.2) fun u10=>
 cond (decide (n7 = (0 : Int))) (
 opt (bn x8) fun s11=>
 some (oM s11 x1 μ2)) (
 callK (ρ.call x2f [LV.int .u8 n7] μ2) (fun v12 μ13 =>
 opt (aM v12) fun b16=>
 cond (!b16) (
 opt (bn x8) fun s17=>
 some (oM s17 x1 μ13)) (
 opt (MU ρ x0l x0i x2f x8 n7 n9 μ13) (kR ρ wG [.block 1] [] (cA 190 [1,1,0,0])))) (pX AT))) (pX AT):=by kernel_rfl
theorem Hz (x6 x7 μ):kB ρ 190 wG [.block 0] (oM x6 x7 μ)=
 some (.ret (LV.ltup [LV.str x6,LV.int .i64 x7]) μ):=by kernel_rfl
theorem XK (al ai b cf μ):aD E ρ 190 [LV.cv (CV.ref al ai 0),LV.int .i64 b,LV.cv (CV.clo cf [])] μ=
 opt (CM ρ al ai b cf [] μ) (kB ρ 190 wG [.block 0]):=by kernel_rfl
theorem XL (a μ):aD E ρ 191 [LV.int .i64 a] μ=
 some (.panic (CV.iface 191 (CV.agg [CV.int .i64 a])) μ):=by kernel_rfl
def IP (x0l x0i:Nat)(x1:Int)(x6 x7:List UInt8)(x8:Bool)(o0_0 o0_1:Int)(o0_2:List UInt8):SegD:=⟨cY,[(4,0),(5,0)],cA 192 [1,1,1,1],mS [(0,LV.cv (CV.ref x0l x0i 0)),(1,LV.int .i64 x1),(4,LV.loc 0 0),(6,LV.str x6),(7,LV.str x7),(8,LV.bool x8)] [Ob.cells [LV.int .i64 o0_0,LV.int .i64 o0_1,LV.str o0_2]]⟩
def pE (x0l x0i:Nat)(x1:Int)(x6 x7:List UInt8)(x8:Bool)(o0_0 o0_1:Int)(o0_2:List UInt8)(μ:Mu):=(IP x0l x0i x1 x6 x7 x8 o0_0 o0_1 o0_2).seg ρ μ
def jY (x5 o0_0 o0_1:Int)(o0_2:List UInt8)(μ:Mu):St:= .ret (mS [(4,LV.loc 0 0),(5,LV.int .i64 x5)] [Ob.cells [LV.int .i64 o0_0,LV.int .i64 o0_1,LV.str o0_2]]) μ
def iJ (pv:CV)(μ:Mu):St:= .panic pv (mS [] []) μ
def Dw (x1:Int)(x6 x7:List UInt8)(x14:Int)(x15:List UInt8)(x16:Int)(x17:Bool)(o0_0 o0_1:Int)(o0_2:List UInt8):SegD:=⟨cY,[(4,0),(5,0)],cA 192 [1,1,1,1,1,1],mS [(1,LV.int .i64 x1),(4,LV.loc 0 0),(6,LV.str x6),(7,LV.str x7),(14,LV.int .u8 x14),(15,LV.str x15),(16,LV.int .i64 x16),(17,LV.bool x17)] [Ob.cells [LV.int .i64 o0_0,LV.int .i64 o0_1,LV.str o0_2]]⟩
def zV (x1:Int)(x6 x7:List UInt8)(x14:Int)(x15:List UInt8)(x16:Int)(x17:Bool)(o0_0 o0_1:Int)(o0_2:List UInt8)(μ:Mu):=(Dw x1 x6 x7 x14 x15 x16 x17 o0_0 o0_1 o0_2).seg ρ μ
def Dx (x1:Int)(x6 x7:List UInt8)(x14:Int)(x15:List UInt8)(x17:Bool)(o0_0 o0_1:Int)(o0_2:List UInt8):SegD:=⟨cY,[(4,0),(5,0)],cA 192 [1,1,1,1,1,1,1],mS [(1,LV.int .i64 x1),(4,LV.loc 0 0),(6,LV.str x6),(7,LV.str x7),(14,LV.int .u8 x14),(15,LV.str x15),(17,LV.bool x17)] [Ob.cells [LV.int .i64 o0_0,LV.int .i64 o0_1,LV.str o0_2]]⟩
def zW (x1:Int)(x6 x7:List UInt8)(x14:Int)(x15:List UInt8)(x17:Bool)(o0_0 o0_1:Int)(o0_2:List UInt8)(μ:Mu):=(Dx x1 x6 x7 x14 x15 x17 o0_0 o0_1 o0_2).seg ρ μ
def Dy (x1:Int)(x6 x7:List UInt8)(x14:Int)(x15:List UInt8)(x17:Bool)(o0_0 o0_1:Int)(o0_2:List UInt8):SegD:=⟨cY,[(4,0),(5,0)],cA 192 [1,1,1,1,1,1,1,1],mS [(1,LV.int .i64 x1),(4,LV.loc 0 0),(6,LV.str x6),(7,LV.str x7),(14,LV.int .u8 x14),(15,LV.str x15),(17,LV.bool x17)] [Ob.cells [LV.int .i64 o0_0,LV.int .i64 o0_1,LV.str o0_2]]⟩
def pD (x1:Int)(x6 x7:List UInt8)(x14:Int)(x15:List UInt8)(x17:Bool)(o0_0 o0_1:Int)(o0_2:List UInt8)(μ:Mu):=(Dy x1 x6 x7 x14 x15 x17 o0_0 o0_1 o0_2).seg ρ μ
def Dz (x1 x14:Int)(x17:Bool)(x18 x19:List UInt8)(o0_0 o0_1:Int)(o0_2:List UInt8):SegD:=⟨cY,[(4,0),(5,0)],cA 192 [1,1,1,1,1,1,1,1,1,1,1],mS [(1,LV.int .i64 x1),(4,LV.loc 0 0),(14,LV.int .u8 x14),(17,LV.bool x17),(18,LV.str x18),(19,LV.str x19)] [Ob.cells [LV.int .i64 o0_0,LV.int .i64 o0_1,LV.str o0_2]]⟩
def zX (x1 x14:Int)(x17:Bool)(x18 x19:List UInt8)(o0_0 o0_1:Int)(o0_2:List UInt8)(μ:Mu):=(Dz x1 x14 x17 x18 x19 o0_0 o0_1 o0_2).seg ρ μ
def m0 (x5 o0_0 o0_1:Int)(o0_2:List UInt8)(μ:Mu):St:= .ret (mS [(4,LV.loc 0 0),(5,LV.int .i64 x5)] [Ob.cells [LV.int .i64 o0_0,LV.int .i64 o0_1,LV.str o0_2]]) μ
def DA (x1:Int)(x18 x19:List UInt8)(o0_0 o0_1:Int)(o0_2:List UInt8):SegD:=⟨cY,[(4,0),(5,0)],cA 192 [1,1,1,1,1,1,1,1,1,1,1,1],mS [(1,LV.int .i64 x1),(4,LV.loc 0 0),(18,LV.str x18),(19,LV.str x19)] [Ob.cells [LV.int .i64 o0_0,LV.int .i64 o0_1,LV.str o0_2]]⟩
def zY (x1:Int)(x18 x19:List UInt8)(o0_0 o0_1:Int)(o0_2:List UInt8)(μ:Mu):=(DA x1 x18 x19 o0_0 o0_1 o0_2).seg ρ μ
def m3 (x5 o0_0 o0_1:Int)(o0_2:List UInt8)(μ:Mu):St:= .ret (mS [(4,LV.loc 0 0),(5,LV.int .i64 x5)] [Ob.cells [LV.int .i64 o0_0,LV.int .i64 o0_1,LV.str o0_2]]) μ
def qG (x5 o0_0 o0_1:Int)(o0_2:List UInt8)(μ:Mu):St:= .ret (mS [(4,LV.loc 0 0),(5,LV.int .i64 x5)] [Ob.cells [LV.int .i64 o0_0,LV.int .i64 o0_1,LV.str o0_2]]) μ
def mZ (pv:CV)(μ:Mu):St:= .panic pv (mS [] []) μ
def qF (x5 o0_0 o0_1:Int)(o0_2:List UInt8)(μ:Mu):St:= .ret (mS [(4,LV.loc 0 0),(5,LV.int .i64 x5)] [Ob.cells [LV.int .i64 o0_0,LV.int .i64 o0_1,LV.str o0_2]]) μ
def jc (pv:CV)(μ:Mu):St:= .panic pv (mS [] []) μ
def mX (x5 o0_0 o0_1:Int)(o0_2:List UInt8)(μ:Mu):St:= .ret (mS [(4,LV.loc 0 0),(5,LV.int .i64 x5)] [Ob.cells [LV.int .i64 o0_0,LV.int .i64 o0_1,LV.str o0_2]]) μ
def mY (pv:CV)(μ:Mu):St:= .panic pv (mS [] []) μ
theorem PI (x1 x18 x19 o0_0 o0_1 o0_2 μ):(DA x1 x18 x19 o0_0 o0_1 o0_2).sK ρ μ=
 cond (!decide (x19 = ([48] : List UInt8))) (
 ax (bC (List.length ([69] : List UInt8) + List.length x19)) (
 ax (bC (List.length x18 + List.length (([69] : List UInt8) ++ x19))) (
 some (m3 x1 (1:Int) (1:Int) (x18++(([69]:List UInt8)++x19)) μ)))) (
 some (m3 x1 (1:Int) (1:Int) x18 μ)):=by kernel_rfl
theorem EU (x5 o0_0 o0_1 o0_2 μ):kS ρ cY [] [(4,0),(5,0)] (m3 x5 o0_0 o0_1 o0_2 μ)=
 some (m0 x5 o0_0 o0_1 o0_2 μ):=by kernel_rfl
theorem PH (x1 x14 x17 x18 x19 o0_0 o0_1 o0_2 μ):(Dz x1 x14 x17 x18 x19 o0_0 o0_1 o0_2).sK ρ μ=
 cond (decide (x14 = (68 : Int))) (
 cond (x17) (
 ax (bC (List.length x18 + List.length ([68] : List UInt8))) (
 ax (bC (List.length (x18 ++ ([68] : List UInt8)) + List.length x19)) (
 some (m0 x1 (1:Int) (2:Int) ((x18++([68]:List UInt8))++x19) μ)))) (
 opt (zY ρ x1 x18 x19 o0_0 o0_1 o0_2 μ) (kS ρ cY [] [(4,0),(5,0)]))) (
 opt (zY ρ x1 x18 x19 o0_0 o0_1 o0_2 μ) (kS ρ cY [] [(4,0),(5,0)])):=by kernel_rfl
theorem uH (x5 o0_0 o0_1 o0_2 μ):kS ρ cY [] [(4,0),(5,0)] (m0 x5 o0_0 o0_1 o0_2 μ)=
 some (qG x5 o0_0 o0_1 o0_2 μ):=by kernel_rfl
theorem PG (x1 x6 x7 x14 x15 x17 o0_0 o0_1 o0_2 μ):(Dy x1 x6 x7 x14 x15 x17 o0_0 o0_1 o0_2).sK ρ μ=
 callK (ρ.call 212 [LV.str x6, LV.bool true] μ) (fun v75 μ76 =>
 opt (aN v75) fun s79=>
 ax (bC (List.length s79 + List.length ([46] : List UInt8))) (
 callK (ρ.call 212 [LV.str x7, LV.bool false] μ76) (fun v80 μ81 =>
 opt (aN v80) fun s84=>
 ax (bC (List.length (s79 ++ ([46] : List UInt8)) + List.length s84)) (
 cond (x17) (
 callK (ρ.call 133 [LV.str x15] μ81) (fun v85 μ86 =>
 opt (aT v85) fun xs89=>
 opt (aw xs89) fun q90=>
 opt (aC .i64 q90.1) fun n91=>
 opt (aw q90.2) fun q92=>
 opt (bP q92.1) fun c93=>
 opt (aO q92.2) fun u94=>
 callK (ρ.call 199 [LV.int .i64 n91] μ86) (fun v95 μ96 =>
 opt (aN v95) fun s99=>
 opt (zX ρ x1 x14 x17 ((s79++([46]:List UInt8))++s84) s99 o0_0 o0_1 o0_2 μ96) (kS ρ cY [] [(4,0),(5,0)])) (pX mZ)) (pX mZ)) (
 opt (zX ρ x1 x14 x17 ((s79++([46]:List UInt8))++s84) ([48]:List UInt8) o0_0 o0_1 o0_2 μ81) (kS ρ cY [] [(4,0),(5,0)])))) (pX mZ))) (pX mZ):=by kernel_rfl
theorem ET (x5 o0_0 o0_1 o0_2 μ):kS ρ cY [] [(4,0),(5,0)] (qG x5 o0_0 o0_1 o0_2 μ)=
 some (qF x5 o0_0 o0_1 o0_2 μ):=by kernel_rfl
theorem PF (x1 x6 x7 x14 x15 x17 o0_0 o0_1 o0_2 μ):(Dx x1 x6 x7 x14 x15 x17 o0_0 o0_1 o0_2).sK ρ μ=
 callK (ρ.call 210 [LV.str x6, LV.str x7] μ) (fun v64 μ65 =>
 opt (aC .i64 v64) fun n68=>
 cond (decide ((30 : Int) < n68)) (
 callK (ρ.call 191 [LV.int .i64 (7 : Int)] μ65) (fun v69 μ70 =>
 opt (aT v69) fun xs73=>
 opt (aO xs73) fun u74=>
 opt (pD ρ x1 x6 x7 x14 x15 x17 o0_0 o0_1 o0_2 μ70) (kS ρ cY [] [(4,0),(5,0)])) (pX jc)) (
 callK (ρ.call 211 [LV.str x15, LV.str ([45] : List UInt8)] μ65) (fun v105 μ106 =>
 opt (aN v105) fun s109=>
 cond (decide ((3 : Int) < (List.length s109 : Int))) (
 cond (x17) (
 callK (ρ.call 191 [LV.int .i64 (7 : Int)] μ106) (fun v110 μ111 =>
 opt (aT v110) fun xs114=>
 opt (aO xs114) fun u115=>
 opt (pD ρ x1 x6 x7 x14 x15 x17 o0_0 o0_1 o0_2 μ111) (kS ρ cY [] [(4,0),(5,0)])) (pX jc)) (
 opt (pD ρ x1 x6 x7 x14 x15 x17 o0_0 o0_1 o0_2 μ106) (kS ρ cY [] [(4,0),(5,0)]))) (
 opt (pD ρ x1 x6 x7 x14 x15 x17 o0_0 o0_1 o0_2 μ106) (kS ρ cY [] [(4,0),(5,0)]))) (pX jc))) (pX jc):=by kernel_rfl
theorem uF (x5 o0_0 o0_1 o0_2 μ):kS ρ cY [] [(4,0),(5,0)] (qF x5 o0_0 o0_1 o0_2 μ)=
 some (mX x5 o0_0 o0_1 o0_2 μ):=by kernel_rfl
theorem uG (pv μ):kS ρ cY [] [(4,0),(5,0)] (jc pv μ)=
 some (mY pv μ):=by kernel_rfl
theorem PE (x1 x6 x7 x14 x15 x16 x17 o0_0 o0_1 o0_2 μ):(Dw x1 x6 x7 x14 x15 x16 x17 o0_0 o0_1 o0_2).sK ρ μ=
 cond (x17) (
 opt (zW ρ x16 x6 x7 x14 x15 x17 o0_0 o0_1 o0_2 μ) (kS ρ cY [] [(4,0),(5,0)])) (
 opt (zW ρ x1 x6 x7 x14 x15 x17 o0_0 o0_1 o0_2 μ) (kS ρ cY [] [(4,0),(5,0)])):=by kernel_rfl
theorem ER (x5 o0_0 o0_1 o0_2 μ):kS ρ cY [] [(4,0),(5,0)] (mX x5 o0_0 o0_1 o0_2 μ)=
 some (jY x5 o0_0 o0_1 o0_2 μ):=by kernel_rfl
theorem ES (pv μ):kS ρ cY [] [(4,0),(5,0)] (mY pv μ)=
 some (iJ pv μ):=by kernel_rfl
theorem RG (x0l x0i x1 x6 x7 x8 o0_0 o0_1 o0_2 μ):(IP x0l x0i x1 x6 x7 x8 o0_0 o0_1 o0_2).sK ρ μ=
 callK (ρ.call 208 [LV.cv (CV.ref x0l x0i 0), LV.int .i64 x1] μ) (fun v43 μ44 =>
 opt (aT v43) fun xs47=>
 opt (aw xs47) fun q48=>
 opt (aC .u8 q48.1) fun n49=>
 opt (aw q48.2) fun q50=>
 opt (aN q50.1) fun s51=>
 opt (aw q50.2) fun q52=>
 opt (aC .i64 q52.1) fun n53=>
 opt (aw q52.2) fun q54=>
 opt (aM q54.1) fun b55=>
 opt (aO q54.2) fun u56=>
 cond (!x8) (
 cond (!b55) (
 callK (ρ.call 209 [LV.str x6] μ44) (fun v57 μ58 =>
 ig v57 fun n61 n62 s63=>
 some (jY x1 n61 n62 s63 μ58)) (pX iJ)) (
 opt (zV ρ x1 x6 x7 n49 s51 n53 b55 o0_0 o0_1 o0_2 μ44) (kS ρ cY [] [(4,0),(5,0)]))) (
 opt (zV ρ x1 x6 x7 n49 s51 n53 b55 o0_0 o0_1 o0_2 μ44) (kS ρ cY [] [(4,0),(5,0)]))) (pX iJ):=by kernel_rfl
theorem GQ (x5 o0_0 o0_1 o0_2 μ):kB ρ 192 cY [] (jY x5 o0_0 o0_1 o0_2 μ)=
 some (.ret (LV.ltup [LV.cv (CV.agg [CV.int .i64 o0_0,CV.int .i64 o0_1,CV.str o0_2]),LV.int .i64 x5]) μ):=by kernel_rfl
theorem GR (pv μ):kB ρ 192 cY [] (iJ pv μ)=
 ax (below (List.length μ) pv) (some (.panic pv μ)):=by kernel_rfl
theorem XM (al ai b μ):aD E ρ 192 [LV.cv (CV.ref al ai 0),LV.int .i64 b] μ=
 callK (ρ.call 190 [LV.cv (CV.ref al ai 0), LV.int .i64 b, LV.cv (CV.clo 160 [])] μ) (fun v1 μ2 =>
 opt (aT v1) fun xs5=>
 opt (aw xs5) fun q6=>
 opt (aN q6.1) fun s7=>
 opt (aw q6.2) fun q8=>
 opt (aC .i64 q8.1) fun n9=>
 opt (aO q8.2) fun u10=>
 callK (ρ.call 189 [LV.cv (CV.ref al ai 0), LV.int .i64 n9] μ2) (fun v11 μ12 =>
 opt (aT v11) fun xs15=>
 opt (aw xs15) fun q16=>
 opt (aC .u8 q16.1) fun n17=>
 opt (aw q16.2) fun q18=>
 opt (aC .i64 q18.1) fun n19=>
 opt (aO q18.2) fun u20=>
 cond (decide (n17 = (46 : Int))) (
 callK (ρ.call 193 [LV.cv (CV.ref al ai 0), LV.int .i64 n9] μ12) (fun v21 μ22 =>
 opt (aT v21) fun xs25=>
 opt (aw xs25) fun q26=>
 opt (aN q26.1) fun s27=>
 opt (aw q26.2) fun q28=>
 opt (aC .i64 q28.1) fun n29=>
 opt (aw q28.2) fun q30=>
 opt (aM q30.1) fun b31=>
 opt (aO q30.2) fun u32=>
 cond (!b31) (
 callK (ρ.call 190 [LV.cv (CV.ref al ai 0), LV.int .i64 n19, LV.cv (CV.clo 160 [])] μ22) (fun v33 μ34 =>
 opt (aT v33) fun xs37=>
 opt (aw xs37) fun q38=>
 opt (aN q38.1) fun s39=>
 opt (aw q38.2) fun q40=>
 opt (aC .i64 q40.1) fun n41=>
 opt (aO q40.2) fun u42=>
 opt (pE ρ al ai n41 s7 s39 true (0:Int) (0:Int) ([]:List UInt8) μ34) (kB ρ 192 cY [])) pP) (
 cond (decide (s7 = ([] : List UInt8))) (
 callK (ρ.call 190 [LV.cv (CV.ref al ai 0), LV.int .i64 n19, LV.cv (CV.clo 160 [])] μ22) (fun v124 μ125 =>
 opt (aT v124) fun xs128=>
 opt (aw xs128) fun q129=>
 opt (aN q129.1) fun s130=>
 opt (aw q129.2) fun q131=>
 opt (aC .i64 q131.1) fun n132=>
 opt (aO q131.2) fun u133=>
 opt (pE ρ al ai n132 s7 s130 true (0:Int) (0:Int) ([]:List UInt8) μ125) (kB ρ 192 cY [])) pP) (
 opt (pE ρ al ai n9 s7 ([]:List UInt8) false (0:Int) (0:Int) ([]:List UInt8) μ22) (kB ρ 192 cY [])))) pP) (
 opt (pE ρ al ai n9 s7 ([]:List UInt8) false (0:Int) (0:Int) ([]:List UInt8) μ12) (kB ρ 192 cY []))) pP) pP:=by kernel_rfl
def IQ (x0l x0i:Nat)(x8:Int):SegD:=⟨KB,[(4,0),(5,0),(6,0)],cA 193 [1,1,1],mS [(0,LV.cv (CV.ref x0l x0i 0)),(8,LV.int .i64 x8)] []⟩
def MV (x0l x0i:Nat)(x8:Int)(μ:Mu):=(IQ x0l x0i x8).seg ρ μ
def gX (x4:List UInt8)(x5:Int)(x6:Bool)(μ:Mu):St:= .ret (mS [(4,LV.str x4),(5,LV.int .i64 x5),(6,LV.bool x6)] []) μ
def mh (pv:CV)(μ:Mu):St:= .panic pv (mS [] []) μ
theorem RH (x0l x0i x8 μ):(IQ x0l x0i x8).sK ρ μ=
 callK (ρ.call 190 [LV.cv (CV.ref x0l x0i 0), LV.int .i64 x8, LV.cv (CV.clo 135 [])] μ) (fun v11 μ12 =>
 opt (aT v11) fun xs15=>
 opt (aw xs15) fun q16=>
 opt (aN q16.1) fun s17=>
 opt (aw q16.2) fun q18=>
 opt (aC .i64 q18.1) fun n19=>
 opt (aO q18.2) fun u20=>
 callK (ρ.call 189 [LV.cv (CV.ref x0l x0i 0), LV.int .i64 n19] μ12) (fun v21 μ22 =>
 opt (aT v21) fun xs25=>
 opt (aw xs25) fun q26=>
 opt (aC .u8 q26.1) fun n27=>
 opt (aw q26.2) fun q28=>
 opt (aC .i64 q28.1) fun n29=>
 opt (aO q28.2) fun u30=>
 callK (ρ.call 136 [LV.str s17] μ22) (fun v31 μ32 =>
 opt (aN v31) fun s35=>
 ax (bC (List.length ([46] : List UInt8) + List.length s35)) (
 ax (bC (List.length (([46] : List UInt8) ++ s35) + List.length ([46] : List UInt8))) (
 callK (ρ.call 92 [] μ32) (fun v36 μ37 =>
 opt (bp v36) fun l40=>
 callK (ρ.call 82 [LV.cv (CV.sl l40), LV.str ((([46] : List UInt8) ++ s35) ++ ([46] : List UInt8))] μ37) (fun v41 μ42 =>
 opt (aM v41) fun b45=>
 cond (b45) (
 cond (decide (n27 = (46 : Int))) (
 some (gX ((([46]:List UInt8)++s35)++([46]:List UInt8)) n29 true μ42)) (
 some (gX ((([46]:List UInt8)++s35)++([46]:List UInt8)) n29 false μ42))) (
 cond (decide ((([46] : List UInt8) ++ s35) ++ ([46] : List UInt8) = ([46, 84, 82, 85, 69, 46] : List UInt8))) (
 cond (decide (n27 = (46 : Int))) (
 some (gX ((([46]:List UInt8)++s35)++([46]:List UInt8)) n29 true μ42)) (
 some (gX ((([46]:List UInt8)++s35)++([46]:List UInt8)) n29 false μ42))) (
 cond (decide (n27 = (46 : Int))) (
 some (gX ((([46]:List UInt8)++s35)++([46]:List UInt8)) n29 (decide ((([46]:List UInt8)++s35)++([46]:List UInt8)=([46,70,65,76,83,69,46]:List UInt8))) μ42)) (
 some (gX ((([46]:List UInt8)++s35)++([46]:List UInt8)) n29 false μ42))))) (pX mh)) (pX mh)))) (pX mh)) (pX mh)) (pX mh):=by kernel_rfl
theorem GS (x4 x5 x6 μ):kB ρ 193 KB [] (gX x4 x5 x6 μ)=
 some (.ret (LV.ltup [LV.str x4,LV.int .i64 x5,LV.bool x6]) μ):=by kernel_rfl
theorem XN (al ai b μ):aD E ρ 193 [LV.cv (CV.ref al ai 0),LV.int .i64 b] μ=
 callK (ρ.call 189 [LV.cv (CV.ref al ai 0), LV.int .i64 b] μ) (fun v1 μ2 =>
 opt (aT v1) fun xs5=>
 opt (aw xs5) fun q6=>
 opt (aC .u8 q6.1) fun n7=>
 opt (aw q6.2) fun q8=>
 opt (aC .i64 q8.1) fun n9=>
 opt (aO q8.2) fun u10=>
 cond (!decide (n7 = (46 : Int))) (
 some (.ret (LV.ltup [LV.str ([]:List UInt8),LV.int .i64 b,LV.bool false]) μ2)) (
 opt (MV ρ al ai n9 μ2) (kB ρ 193 KB []))) pP:=by kernel_rfl
def Jq (x0l x0i:Nat)(x1:Int)(x6:List UInt8)(x7:Int)(x8:List UInt8)(o0_0 o0_1:Int)(o0_2:List UInt8):SegD:=⟨kl,[(0,0),(1,0),(4,0),(7,0),(8,0)],cA 194 [1,1,1,1,0,1,0,0],mS [(0,LV.cv (CV.ref x0l x0i 0)),(1,LV.int .i64 x1),(4,LV.loc 0 0),(6,LV.str x6),(7,LV.int .i64 x7),(8,LV.str x8)] [Ob.cells [LV.int .i64 o0_0,LV.int .i64 o0_1,LV.str o0_2]]⟩
def CN (x0l x0i:Nat)(x1:Int)(x6:List UInt8)(x7:Int)(x8:List UInt8)(o0_0 o0_1:Int)(o0_2:List UInt8)(μ:Mu):=(Jq x0l x0i x1 x6 x7 x8 o0_0 o0_1 o0_2).loop ρ μ
def IR (x0l x0i:Nat)(x1:Int)(x6:List UInt8)(x7:Int)(x8:List UInt8)(x9 o0_0 o0_1:Int)(o0_2:List UInt8):SegD:=⟨kl,[(0,0),(1,0),(4,0),(6,0),(7,0),(8,0)],cA 194 [1,1,1,1,0,1,0,0,0,0,1,1],mS [(0,LV.cv (CV.ref x0l x0i 0)),(1,LV.int .i64 x1),(4,LV.loc 0 0),(6,LV.str x6),(7,LV.int .i64 x7),(8,LV.str x8),(9,LV.int .i64 x9)] [Ob.cells [LV.int .i64 o0_0,LV.int .i64 o0_1,LV.str o0_2]]⟩
def Cw (x0l x0i:Nat)(x1:Int)(x6:List UInt8)(x7:Int)(x8:List UInt8)(x9 o0_0 o0_1:Int)(o0_2:List UInt8)(μ:Mu):=(IR x0l x0i x1 x6 x7 x8 x9 o0_0 o0_1 o0_2).seg ρ μ
def oC (x0l x0i:Nat)(x1:Int)(x6:List UInt8)(x7:Int)(x8:List UInt8)(o0_0 o0_1:Int)(o0_2:List UInt8)(μ:Mu):St:= .exit 0 (mS [(0,LV.cv (CV.ref x0l x0i 0)),(1,LV.int .i64 x1),(4,LV.loc 0 0),(6,LV.str x6),(7,LV.int .i64 x7),(8,LV.str x8)] [Ob.cells [LV.int .i64 o0_0,LV.int .i64 o0_1,LV.str o0_2]]) μ
def sX (x0l x0i:Nat)(x1:Int)(x6:List UInt8)(x7:Int)(x8:List UInt8)(o0_0 o0_1:Int)(o0_2:List UInt8)(μ:Mu):St:= .norm (mS [(0,LV.cv (CV.ref x0l x0i 0)),(1,LV.int .i64 x1),(4,LV.loc 0 0),(6,LV.str x6),(7,LV.int .i64 x7),(8,LV.str x8)] [Ob.cells [LV.int .i64 o0_0,LV.int .i64 o0_1,LV.str o0_2]]) μ
def Ni (pv:CV)(μ:Mu):St:= .panic pv (mS [] []) μ
def tD (x0l x0i:Nat)(x1 x7:Int)(x8:List UInt8)(o0_0 o0_1:Int)(o0_2:List UInt8)(μ:Mu):St:= .exit 0 (mS [(0,LV.cv (CV.ref x0l x0i 0)),(1,LV.int .i64 x1),(4,LV.loc 0 0),(7,LV.int .i64 x7),(8,LV.str x8)] [Ob.cells [LV.int .i64 o0_0,LV.int .i64 o0_1,LV.str o0_2]]) μ
def oN (pv:CV)(μ:Mu):St:= .panic pv (mS [] []) μ
def DB (x0l x0i:Nat)(x1 x7:Int)(x8:List UInt8)(o0_0 o0_1:Int)(o0_2:List UInt8):SegD:=⟨kl,[(4,0),(5,0)],cA 194 [1,1,1,1,1,1],mS [(0,LV.cv (CV.ref x0l x0i 0)),(1,LV.int .i64 x1),(4,LV.loc 0 0),(7,LV.int .i64 x7),(8,LV.str x8)] [Ob.cells [LV.int .i64 o0_0,LV.int .i64 o0_1,LV.str o0_2]]⟩
def zZ (x0l x0i:Nat)(x1 x7:Int)(x8:List UInt8)(o0_0 o0_1:Int)(o0_2:List UInt8)(μ:Mu):=(DB x0l x0i x1 x7 x8 o0_0 o0_1 o0_2).seg ρ μ
def qH (x5 o0_0 o0_1:Int)(o0_2:List UInt8)(μ:Mu):St:= .ret (mS [(4,LV.loc 0 0),(5,LV.int .i64 x5)] [Ob.cells [LV.int .i64 o0_0,LV.int .i64 o0_1,LV.str o0_2]]) μ
def yc (pv:CV)(μ:Mu):St:= .panic pv (mS [] []) μ
theorem RI (x0l x0i x1 x6 x7 x8 x9 o0_0 o0_1 o0_2 μ):(IR x0l x0i x1 x6 x7 x8 x9 o0_0 o0_1 o0_2).sK ρ μ=
 opt (bv E.P 9 (aU μ x0l x0i) 0) fun v18=>
 opt (aN v18) fun s19=>
 opt (dB s19 x1 (IntKind.wrap .i64 (x1+x9))) fun s20=>
 ax (bC (List.length x8 + List.length s20)) (
 opt (bv E.P 9 (aU μ x0l x0i) 0) fun v21=>
 opt (aN v21) fun s22=>
 opt (dB s22 (IntKind.wrap .i64 (x1+IntKind.wrap .i64 (x9+(1:Int)))) (List.length s22:Int)) fun s23=>
 callK (ρ.call 214 [LV.str s23, LV.str x6] μ) (fun v24 μ25 =>
 opt (aM v24) fun b28=>
 cond (!b28) (
 some (oC x0l x0i (IntKind.wrap .i64 (x1+IntKind.wrap .i64 (x9+(1:Int)))) x6 x7 (x8++s20) o0_0 o0_1 o0_2 μ25)) (
 ax (bC (List.length (x8 ++ s20) + List.length x6)) (
 some (sX x0l x0i (IntKind.wrap .i64 (x1+IntKind.wrap .i64 (x9+(1:Int)))) x6 x7 ((x8++s20)++x6) o0_0 o0_1 o0_2 μ25)))) (pX Ni)):=by kernel_rfl
theorem wd (x0l x0i x1 x6 x7 x8 o0_0 o0_1 o0_2 μ):kR ρ kl [.block 1,.seq (cA 194 [1,1,1,1,0,1,0,0,1])] [(0,0),(1,0),(4,0),(7,0),(8,0)] (cA 194 [1,1,1,1,0,1,0,0]) (oC x0l x0i x1 x6 x7 x8 o0_0 o0_1 o0_2 μ)=
 some (tD x0l x0i x1 x7 x8 o0_0 o0_1 o0_2 μ):=by kernel_rfl
theorem GT (x0l x0i x1 x6 x7 x8 o0_0 o0_1 o0_2 μ):kR ρ kl [.block 1,.seq (cA 194 [1,1,1,1,0,1,0,0,1])] [(0,0),(1,0),(4,0),(7,0),(8,0)] (cA 194 [1,1,1,1,0,1,0,0]) (sX x0l x0i x1 x6 x7 x8 o0_0 o0_1 o0_2 μ)=
 CN ρ x0l x0i (IntKind.wrap .i64 (x1+(1:Int))) x6 x7 x8 o0_0 o0_1 o0_2 μ:=by kernel_rfl
theorem Ex (x0l x0i x1 x6 x7 x8 o0_0 o0_1 o0_2 μ):(Jq x0l x0i x1 x6 x7 x8 o0_0 o0_1 o0_2).rK ρ μ=
 opt (bv E.P 9 (aU μ x0l x0i) 0) fun v4=>
 opt (aN v4) fun s5=>
 opt (dB s5 x1 (List.length s5:Int)) fun s6=>
 callK (ρ.call 213 [LV.str s6, LV.str x6] μ) (fun v7 μ8 =>
 opt (aC .i64 v7) fun n11=>
 cond (decide (n11 < (0 : Int))) (
 callK (ρ.call 191 [LV.int .i64 (7 : Int)] μ8) (fun v12 μ13 =>
 opt (aT v12) fun xs16=>
 opt (aO xs16) fun u17=>
 opt (Cw ρ x0l x0i x1 x6 x7 x8 n11 o0_0 o0_1 o0_2 μ13) (kR ρ kl [.block 1,.seq (cA 194 [1,1,1,1,0,1,0,0,1])] [(0,0),(1,0),(4,0),(7,0),(8,0)] (cA 194 [1,1,1,1,0,1,0,0]))) (pX oN)) (
 opt (Cw ρ x0l x0i x1 x6 x7 x8 n11 o0_0 o0_1 o0_2 μ8) (kR ρ kl [.block 1,.seq (cA 194 [1,1,1,1,0,1,0,0,1])] [(0,0),(1,0),(4,0),(7,0),(8,0)] (cA 194 [1,1,1,1,0,1,0,0])))) (pX oN):=by kernel_rfl
theorem PJ (x0l x0i x1 x7 x8 o0_0 o0_1 o0_2 μ):(DB x0l x0i x1 x7 x8 o0_0 o0_1 o0_2).sK ρ μ=
 callK (ρ.call 205 [LV.cv (CV.ref x0l x0i 0), LV.int .i64 x7, LV.int .i64 x1] μ) (fun v37 μ38 =>
 opt (aT v37) fun xs41=>
 opt (aO xs41) fun u42=>
 callK (ρ.call 206 [LV.str x8] μ38) (fun v43 μ44 =>
 ig v43 fun n47 n48 s49=>
 some (qH x1 n47 n48 s49 μ44)) (pX yc)) (pX yc):=by kernel_rfl
theorem EW (x5 o0_0 o0_1 o0_2 μ):kB ρ 194 kl [] (qH x5 o0_0 o0_1 o0_2 μ)=
 some (.ret (LV.ltup [LV.cv (CV.agg [CV.int .i64 o0_0,CV.int .i64 o0_1,CV.str o0_2]),LV.int .i64 x5]) μ):=by kernel_rfl
theorem HA (x0l x0i x1 x7 x8 o0_0 o0_1 o0_2 μ):kB ρ 194 kl [.block 0,.seq (cA 194 [1,1,1,1,1])] (tD x0l x0i x1 x7 x8 o0_0 o0_1 o0_2 μ)=
 cond (decide ((60 : Int) < (List.length x8 : Int))) (
 callK (ρ.call 191 [LV.int .i64 (8 : Int)] μ) (fun v31 μ32 =>
 opt (aT v31) fun xs35=>
 opt (aO xs35) fun u36=>
 opt (zZ ρ x0l x0i x1 x7 x8 o0_0 o0_1 o0_2 μ32) (kB ρ 194 kl [])) pP) (
 opt (zZ ρ x0l x0i x1 x7 x8 o0_0 o0_1 o0_2 μ) (kB ρ 194 kl [])):=by kernel_rfl
theorem HB (pv μ):kB ρ 194 kl [.block 0,.seq (cA 194 [1,1,1,1,1])] (oN pv μ)=
 ax (below (List.length μ) pv) (some (.panic pv μ)):=by kernel_rfl
theorem XO (al ai b μ):aD E ρ 194 [LV.cv (CV.ref al ai 0),LV.int .i64 b] μ=
 opt (bv E.P 9 (aU μ al ai) 0) fun v1=>
 opt (aN v1) fun s2=>
 opt (dB s2 b (IntKind.wrap .i64 (b+(1:Int)))) fun s3=>
 opt (CN ρ al ai (IntKind.wrap .i64 (b+(1:Int))) s3 b ([]:List UInt8) (0:Int) (0:Int) ([]:List UInt8) μ) (kB ρ 194 kl [.block 0,.seq (cA 194 [1,1,1,1,1])]):=by kernel_rfl
def IS (x6 x7 x8 x9:Int)(x10:List UInt8)(o0_0 o0_1:Int)(o0_2:List UInt8):SegD:=⟨jy,[(4,0),(5,0)],cA 195 [1,1,1,1,1],mS [(4,LV.loc 0 0),(6,LV.int .u8 x6),(7,LV.int .i64 x7),(8,LV.int .u8 x8),(9,LV.int .i64 x9),(10,LV.str x10)] [Ob.cells [LV.int .i64 o0_0,LV.int .i64 o0_1,LV.str o0_2]]⟩
def MW (x6 x7 x8 x9:Int)(x10:List UInt8)(o0_0 o0_1:Int)(o0_2:List UInt8)(μ:Mu):=(IS x6 x7 x8 x9 x10 o0_0 o0_1 o0_2).seg ρ μ
def jZ (x5 o0_0 o0_1:Int)(o0_2:List UInt8)(μ:Mu):St:= .ret (mS [(4,LV.loc 0 0),(5,LV.int .i64 x5)] [Ob.cells [LV.int .i64 o0_0,LV.int .i64 o0_1,LV.str o0_2]]) μ
def IT (x6 x7 o0_0 o0_1:Int)(o0_2:List UInt8):SegD:=⟨jy,[(4,0),(5,0)],cA 195 [1,1,1,1,1,1],mS [(4,LV.loc 0 0),(6,LV.int .u8 x6),(7,LV.int .i64 x7)] [Ob.cells [LV.int .i64 o0_0,LV.int .i64 o0_1,LV.str o0_2]]⟩
def Cx (x6 x7 o0_0 o0_1:Int)(o0_2:List UInt8)(μ:Mu):=(IT x6 x7 o0_0 o0_1 o0_2).seg ρ μ
def mi (x5 o0_0 o0_1:Int)(o0_2:List UInt8)(μ:Mu):St:= .ret (mS [(4,LV.loc 0 0),(5,LV.int .i64 x5)] [Ob.cells [LV.int .i64 o0_0,LV.int .i64 o0_1,LV.str o0_2]]) μ
def DC (x7:Int)(x13:List UInt8)(o0_0 o0_1:Int)(o0_2:List UInt8):SegD:=⟨jy,[(4,0),(5,0)],cA 195 [1,1,1,1,1,1,1,1],mS [(4,LV.loc 0 0),(7,LV.int .i64 x7),(13,LV.str x13)] [Ob.cells [LV.int .i64 o0_0,LV.int .i64 o0_1,LV.str o0_2]]⟩
def In (x7:Int)(x13:List UInt8)(o0_0 o0_1:Int)(o0_2:List UInt8)(μ:Mu):=(DC x7 x13 o0_0 o0_1 o0_2).seg ρ μ
def m4 (x5 o0_0 o0_1:Int)(o0_2:List UInt8)(μ:Mu):St:= .ret (mS [(4,LV.loc 0 0),(5,LV.int .i64 x5)] [Ob.cells [LV.int .i64 o0_0,LV.int .i64 o0_1,LV.str o0_2]]) μ
def kz (pv:CV)(μ:Mu):St:= .panic pv (mS [] []) μ
def mj (pv:CV)(μ:Mu):St:= .panic pv (mS [] []) μ
def iK (pv:CV)(μ:Mu):St:= .panic pv (mS [] []) μ
theorem PK (x7 x13 o0_0 o0_1 o0_2 μ):(DC x7 x13 o0_0 o0_1 o0_2).sK ρ μ=
 callK (ρ.call 93 [] μ) (fun v49 μ50 =>
 opt (bp v49) fun l53=>
 callK (ρ.call 82 [LV.cv (CV.sl l53), LV.str x13] μ50) (fun v54 μ55 =>
 opt (aM v54) fun b58=>
 cond (!b58) (
 callK (ρ.call 191 [LV.int .i64 (7 : Int)] μ55) (fun v59 μ60 =>
 opt (aT v59) fun xs63=>
 opt (aO xs63) fun u64=>
 some (m4 x7 (2:Int) (0:Int) x13 μ60)) (pX kz)) (
 some (m4 x7 (2:Int) (0:Int) x13 μ55))) (pX kz)) (pX kz):=by kernel_rfl
theorem EX (x5 o0_0 o0_1 o0_2 μ):kS ρ jy [] [(4,0),(5,0)] (m4 x5 o0_0 o0_1 o0_2 μ)=
 some (mi x5 o0_0 o0_1 o0_2 μ):=by kernel_rfl
theorem EY (pv μ):kS ρ jy [] [(4,0),(5,0)] (kz pv μ)=
 some (mj pv μ):=by kernel_rfl
theorem RK (x6 x7 o0_0 o0_1 o0_2 μ):(IT x6 x7 o0_0 o0_1 o0_2).sK ρ μ=
 opt (bn [CV.int .u8 x6]) fun s40=>
 callK (ρ.call 215 [] μ) (fun v41 μ42 =>
 opt (bP v41) fun c45=>
 opt (vA (LV.cv c45) {fr:=fun _=> .cv .undef,lam:=[Ob.cells [LV.int .i64 o0_0,LV.int .i64 o0_1,LV.str o0_2]],pushed:=false} μ42) fun p46=>
 ax (kQ .string p46.1) (
 optE (gQ p46.1 p46.2 (Value.string ⟨⟨s40⟩⟩)) (fun c47 =>
 opt (aN (LV.cv c47)) fun s48=>
 some (mi x7 (2:Int) (0:Int) s48 μ42)) (
 opt (In ρ x7 s40 o0_0 o0_1 o0_2 μ42) (kS ρ jy [] [(4,0),(5,0)])))) (pX mj):=by kernel_rfl
theorem GW (x5 o0_0 o0_1 o0_2 μ):kS ρ jy [] [(4,0),(5,0)] (mi x5 o0_0 o0_1 o0_2 μ)=
 some (jZ x5 o0_0 o0_1 o0_2 μ):=by kernel_rfl
theorem GX (pv μ):kS ρ jy [] [(4,0),(5,0)] (mj pv μ)=
 some (iK pv μ):=by kernel_rfl
theorem RJ (x6 x7 x8 x9 x10 o0_0 o0_1 o0_2 μ):(IS x6 x7 x8 x9 x10 o0_0 o0_1 o0_2).sK ρ μ=
 cond (!decide (x8 = (0 : Int))) (
 callK (ρ.call 93 [] μ) (fun v30 μ31 =>
 opt (bp v30) fun l34=>
 callK (ρ.call 82 [LV.cv (CV.sl l34), LV.str x10] μ31) (fun v35 μ36 =>
 opt (aM v35) fun b39=>
 cond (b39) (
 some (jZ x9 (2:Int) (0:Int) x10 μ36)) (
 opt (Cx ρ x6 x7 o0_0 o0_1 o0_2 μ36) (kS ρ jy [] [(4,0),(5,0)]))) (pX iK)) (pX iK)) (
 opt (Cx ρ x6 x7 o0_0 o0_1 o0_2 μ) (kS ρ jy [] [(4,0),(5,0)])):=by kernel_rfl
theorem GU (x5 o0_0 o0_1 o0_2 μ):kB ρ 195 jy [] (jZ x5 o0_0 o0_1 o0_2 μ)=
 some (.ret (LV.ltup [LV.cv (CV.agg [CV.int .i64 o0_0,CV.int .i64 o0_1,CV.str o0_2]),LV.int .i64 x5]) μ):=by kernel_rfl
theorem GV (pv μ):kB ρ 195 jy [] (iK pv μ)=
 ax (below (List.length μ) pv) (some (.panic pv μ)):=by kernel_rfl
theorem XP (al ai b μ):aD E ρ 195 [LV.cv (CV.ref al ai 0),LV.int .i64 b] μ=
 callK (ρ.call 189 [LV.cv (CV.ref al ai 0), LV.int .i64 b] μ) (fun v1 μ2 =>
 opt (aT v1) fun xs5=>
 opt (aw xs5) fun q6=>
 opt (aC .u8 q6.1) fun n7=>
 opt (aw q6.2) fun q8=>
 opt (aC .i64 q8.1) fun n9=>
 opt (aO q8.2) fun u10=>
 callK (ρ.call 189 [LV.cv (CV.ref al ai 0), LV.int .i64 n9] μ2) (fun v11 μ12 =>
 opt (aT v11) fun xs15=>
 opt (aw xs15) fun q16=>
 opt (aC .u8 q16.1) fun n17=>
 opt (aw q16.2) fun q18=>
 opt (aC .i64 q18.1) fun n19=>
 opt (aO q18.2) fun u20=>
 opt (bn [CV.int .u8 n7,CV.int .u8 n17]) fun s21=>
 callK (ρ.call 215 [] μ12) (fun v22 μ23 =>
 opt (bP v22) fun c26=>
 opt (vA (LV.cv c26) {fr:=fun _=> .cv .undef,lam:=[Ob.cells [LV.int .i64 (0:Int),LV.int .i64 (0:Int),LV.str ([]:List UInt8)]],pushed:=false} μ23) fun p27=>
 ax (kQ .string p27.1) (
 optE (gQ p27.1 p27.2 (Value.string ⟨⟨s21⟩⟩)) (fun c28 =>
 opt (aN (LV.cv c28)) fun s29=>
 some (.ret (LV.ltup [LV.cv (CV.agg [CV.int .i64 (2:Int),CV.int .i64 (0:Int),CV.str s29]),LV.int .i64 n19]) μ23)) (
 opt (MW ρ n7 n9 n17 n19 s21 (0:Int) (0:Int) ([]:List UInt8) μ23) (kB ρ 195 jy [])))) pP) pP) pP:=by kernel_rfl
def Jr (x0l x0i:Nat)(x2 x6:Int):SegD:=⟨KC,[],cA 205 [1,0,0],mS [(0,LV.cv (CV.ref x0l x0i 0)),(2,LV.int .i64 x2),(6,LV.int .i64 x6)] []⟩
def CO (x0l x0i:Nat)(x2 x6:Int)(μ:Mu):=(Jr x0l x0i x2 x6).loop ρ μ
def tE (μ:Mu):St:= .exit 0 (mS [] []) μ
theorem Ey (x0l x0i x2 x6 μ):(Jr x0l x0i x2 x6).rK ρ μ=
 cond (decide (x6 < x2)) (
 opt (gc E.P 55 (aU μ x0l x0i) 3) fun r1=>
 opt (gM r1.1) fun l2=>
 ax (dQ 1 l2 [CV.int .i64 x6]) (
 ax (b7 (x0l + 1) (l2 ++ [CV.int .i64 x6])) (
 opt (dY E.P 55 (aU (bj μ x0l x0i r1.2) x0l x0i) 3 (LV.osl (l2++[CV.int .i64 x6]))) fun o3=>
 CO ρ x0l x0i x2 (IntKind.wrap .i64 (x6+(1:Int))) (bj (bj μ x0l x0i r1.2) x0l x0i o3)))) (
 some (tE μ)):=by kernel_rfl
theorem HC (μ):kB ρ 205 KC [.block 0] (tE μ)=
 some (.ret (LV.ltup []) μ):=by kernel_rfl
theorem XQ (al ai b c μ):aD E ρ 205 [LV.cv (CV.ref al ai 0),LV.int .i64 b,LV.int .i64 c] μ=
 opt (CO ρ al ai c b μ) (kB ρ 205 KC [.block 0]):=by kernel_rfl
theorem XR (a μ):aD E ρ 206 [LV.str a] μ=
 callK (ρ.call 224 [LV.str a, LV.str ([39] : List UInt8), LV.str ([39, 39] : List UInt8)] μ) (fun v1 μ2 =>
 opt (aN v1) fun s5=>
 ax (bC (List.length ([39] : List UInt8) + List.length s5)) (
 ax (bC (List.length (([39] : List UInt8) ++ s5) + List.length ([39] : List UInt8))) (
 some (.ret (LV.cv (CV.agg [CV.int .i64 (1:Int),CV.int .i64 (6:Int),CV.str ((([39]:List UInt8)++s5)++([39]:List UInt8))])) μ2)))) pP:=by kernel_rfl
def Js (x0l x0i:Nat)(x1:Int):SegD:=⟨KD,[(1,0)],cA 207 [1,0,0,0],mS [(0,LV.cv (CV.ref x0l x0i 0)),(1,LV.int .i64 x1)] []⟩
def CP (x0l x0i:Nat)(x1:Int)(μ:Mu):=(Js x0l x0i x1).loop ρ μ
def mm (x1:Int)(μ:Mu):St:= .exit 0 (mS [(1,LV.int .i64 x1)] []) μ
theorem Ez (x0l x0i x1 μ):(Js x0l x0i x1).rK ρ μ=
 opt (bv E.P 4 (aU μ x0l x0i) 1) fun v1=>
 opt (aM v1) fun b2=>
 cond (b2) (
 opt (bv E.P 9 (aU μ x0l x0i) 0) fun v3=>
 opt (aN v3) fun s4=>
 cond (decide (x1 < (List.length s4 : Int))) (
 opt (bv E.P 9 (aU μ x0l x0i) 0) fun v5=>
 opt (aN v5) fun s6=>
 opt (bu s6 x1) fun y7=>
 cond (decide ((y7.toNat : Int) = (32 : Int))) (
 CP ρ x0l x0i (IntKind.wrap .i64 (x1+(1:Int))) μ) (
 some (mm x1 μ))) (
 some (mm x1 μ))) (
 some (mm x1 μ)):=by kernel_rfl
theorem HD (x1 μ):kB ρ 207 KD [.block 0,.seq (cA 207 [1,1])] (mm x1 μ)=
 some (.ret (LV.int .i64 x1) μ):=by kernel_rfl
theorem XS (al ai b μ):aD E ρ 207 [LV.cv (CV.ref al ai 0),LV.int .i64 b] μ=
 opt (CP ρ al ai b μ) (kB ρ 207 KD [.block 0,.seq (cA 207 [1,1])]):=by kernel_rfl
def IU (x0l x0i:Nat)(x4 x9:Int):SegD:=⟨mO,[(4,0),(5,0),(6,0),(7,0)],cA 208 [1,1,1,1],mS [(0,LV.cv (CV.ref x0l x0i 0)),(4,LV.int .u8 x4),(9,LV.int .i64 x9)] []⟩
def Cy (x0l x0i:Nat)(x4 x9:Int)(μ:Mu):=(IU x0l x0i x4 x9).seg ρ μ
def DD (x0l x0i:Nat)(x4 x9:Int)(x10:List UInt8):SegD:=⟨mO,[(4,0),(5,0),(6,0),(7,0)],cA 208 [1,1,1,1,1,1],mS [(0,LV.cv (CV.ref x0l x0i 0)),(4,LV.int .u8 x4),(9,LV.int .i64 x9),(10,LV.str x10)] []⟩
def nn (x0l x0i:Nat)(x4 x9:Int)(x10:List UInt8)(μ:Mu):=(DD x0l x0i x4 x9 x10).seg ρ μ
def qI (x4:Int)(x5:List UInt8)(x6:Int)(x7:Bool)(μ:Mu):St:= .ret (mS [(4,LV.int .u8 x4),(5,LV.str x5),(6,LV.int .i64 x6),(7,LV.bool x7)] []) μ
def KN (pv:CV)(μ:Mu):St:= .panic pv (mS [] []) μ
def sY (x4:Int)(x5:List UInt8)(x6:Int)(x7:Bool)(μ:Mu):St:= .ret (mS [(4,LV.int .u8 x4),(5,LV.str x5),(6,LV.int .i64 x6),(7,LV.bool x7)] []) μ
def Nj (pv:CV)(μ:Mu):St:= .panic pv (mS [] []) μ
theorem PL (x0l x0i x4 x9 x10 μ):(DD x0l x0i x4 x9 x10).sK ρ μ=
 callK (ρ.call 190 [LV.cv (CV.ref x0l x0i 0), LV.int .i64 x9, LV.cv (CV.clo 160 [])] μ) (fun v21 μ22 =>
 opt (aT v21) fun xs25=>
 opt (aw xs25) fun q26=>
 opt (aN q26.1) fun s27=>
 opt (aw q26.2) fun q28=>
 opt (aC .i64 q28.1) fun n29=>
 opt (aO q28.2) fun u30=>
 ax (bC (List.length x10 + List.length s27)) (
 some (qI x4 (x10++s27) n29 (!decide (s27=([]:List UInt8))) μ22))) (pX KN):=by kernel_rfl
theorem nZ (x4 x5 x6 x7 μ):kS ρ mO [] [(4,0),(5,0),(6,0),(7,0)] (qI x4 x5 x6 x7 μ)=
 some (sY x4 x5 x6 x7 μ):=by kernel_rfl
theorem RL (x0l x0i x4 x9 μ):(IU x0l x0i x4 x9).sK ρ μ=
 callK (ρ.call 189 [LV.cv (CV.ref x0l x0i 0), LV.int .i64 x9] μ) (fun v11 μ12 =>
 opt (aT v11) fun xs15=>
 opt (aw xs15) fun q16=>
 opt (aC .u8 q16.1) fun n17=>
 opt (aw q16.2) fun q18=>
 opt (aC .i64 q18.1) fun n19=>
 opt (aO q18.2) fun u20=>
 cond (decide (n17 = (43 : Int))) (
 cond (decide (n17 = (45 : Int))) (
 opt (nn ρ x0l x0i x4 n19 ([45]:List UInt8) μ12) (kS ρ mO [] [(4,0),(5,0),(6,0),(7,0)])) (
 opt (nn ρ x0l x0i x4 n19 ([]:List UInt8) μ12) (kS ρ mO [] [(4,0),(5,0),(6,0),(7,0)]))) (
 cond (decide (n17 = (45 : Int))) (
 cond (decide (n17 = (45 : Int))) (
 opt (nn ρ x0l x0i x4 n19 ([45]:List UInt8) μ12) (kS ρ mO [] [(4,0),(5,0),(6,0),(7,0)])) (
 opt (nn ρ x0l x0i x4 n19 ([]:List UInt8) μ12) (kS ρ mO [] [(4,0),(5,0),(6,0),(7,0)]))) (
 opt (nn ρ x0l x0i x4 x9 ([]:List UInt8) μ12) (kS ρ mO [] [(4,0),(5,0),(6,0),(7,0)])))) (pX Nj):=by kernel_rfl
theorem we (x4 x5 x6 x7 μ):kB ρ 208 mO [] (sY x4 x5 x6 x7 μ)=
 some (.ret (LV.ltup [LV.int .u8 x4,LV.str x5,LV.int .i64 x6,LV.bool x7]) μ):=by kernel_rfl
theorem XT (al ai b μ):aD E ρ 208 [LV.cv (CV.ref al ai 0),LV.int .i64 b] μ=
 callK (ρ.call 189 [LV.cv (CV.ref al ai 0), LV.int .i64 b] μ) (fun v1 μ2 =>
 opt (aT v1) fun xs5=>
 opt (aw xs5) fun q6=>
 opt (aC .u8 q6.1) fun n7=>
 opt (aw q6.2) fun q8=>
 opt (aC .i64 q8.1) fun n9=>
 opt (aO q8.2) fun u10=>
 cond (!decide (IntKind.wrap .u8 ((BitVec.ofInt (IntKind.bits .u8) n7 &&& ~~~BitVec.ofInt (IntKind.bits .u8) (32 : Int)).toNat : Int) = (69 : Int))) (
 cond (!decide (IntKind.wrap .u8 ((BitVec.ofInt (IntKind.bits .u8) n7 &&& ~~~BitVec.ofInt (IntKind.bits .u8) (32 : Int)).toNat : Int) = (68 : Int))) (
 some (.ret (LV.ltup [LV.int .u8 (0:Int),LV.str ([]:List UInt8),LV.int .i64 b,LV.bool false]) μ2)) (
 opt (Cy ρ al ai (IntKind.wrap .u8 ((BitVec.ofInt (IntKind.bits .u8) n7 &&& ~~~BitVec.ofInt (IntKind.bits .u8) (32:Int)).toNat:Int)) n9 μ2) (kB ρ 208 mO []))) (
 opt (Cy ρ al ai (IntKind.wrap .u8 ((BitVec.ofInt (IntKind.bits .u8) n7 &&& ~~~BitVec.ofInt (IntKind.bits .u8) (32:Int)).toNat:Int)) n9 μ2) (kB ρ 208 mO []))) pP:=by kernel_rfl
theorem XU (a μ):aD E ρ 209 [LV.str a] μ=
 callK (ρ.call 133 [LV.str a] μ) (fun v1 μ2 =>
 opt (aT v1) fun xs5=>
 opt (aw xs5) fun q6=>
 opt (aC .i64 q6.1) fun n7=>
 opt (aw q6.2) fun q8=>
 opt (bP q8.1) fun c9=>
 opt (aO q8.2) fun u10=>
 cond (decide ((10 : Int) < (List.length a : Int))) (
 callK (ρ.call 191 [LV.int .i64 (28 : Int)] μ2) (fun v11 μ12 =>
 opt (aT v11) fun xs15=>
 opt (aO xs15) fun u16=>
 callK (ρ.call 199 [LV.int .i64 n7] μ12) (fun v17 μ18 =>
 opt (aN v17) fun s21=>
 some (.ret (LV.cv (CV.agg [CV.int .i64 (1:Int),CV.int .i64 (0:Int),CV.str s21])) μ18)) pP) pP) (
 opt (Cg (LV.cv c9)) fun b22=>
 cond (!b22) (
 callK (ρ.call 191 [LV.int .i64 (28 : Int)] μ2) (fun v23 μ24 =>
 opt (aT v23) fun xs27=>
 opt (aO xs27) fun u28=>
 callK (ρ.call 199 [LV.int .i64 n7] μ24) (fun v29 μ30 =>
 opt (aN v29) fun s33=>
 some (.ret (LV.cv (CV.agg [CV.int .i64 (1:Int),CV.int .i64 (0:Int),CV.str s33])) μ30)) pP) pP) (
 cond (decide ((2147483647 : Int) < n7)) (
 callK (ρ.call 191 [LV.int .i64 (28 : Int)] μ2) (fun v34 μ35 =>
 opt (aT v34) fun xs38=>
 opt (aO xs38) fun u39=>
 callK (ρ.call 199 [LV.int .i64 n7] μ35) (fun v40 μ41 =>
 opt (aN v40) fun s44=>
 some (.ret (LV.cv (CV.agg [CV.int .i64 (1:Int),CV.int .i64 (0:Int),CV.str s44])) μ41)) pP) pP) (
 callK (ρ.call 199 [LV.int .i64 n7] μ2) (fun v45 μ46 =>
 opt (aN v45) fun s49=>
 some (.ret (LV.cv (CV.agg [CV.int .i64 (1:Int),CV.int .i64 (0:Int),CV.str s49])) μ46)) pP)))) pP:=by kernel_rfl
theorem XV (a b μ):aD E ρ 210 [LV.str a,LV.str b] μ=
 callK (ρ.call 225 [LV.str a, LV.str ([48] : List UInt8)] μ) (fun v1 μ2 =>
 opt (aN v1) fun s5=>
 callK (ρ.call 226 [LV.str b, LV.str ([48] : List UInt8)] μ2) (fun v6 μ7 =>
 opt (aN v6) fun s10=>
 some (.ret (LV.int .i64 (IntKind.wrap .i64 ((List.length s5:Int)+(List.length s10:Int)))) μ7)) pP) pP:=by kernel_rfl
theorem Tb (a b μ):aD E ρ 212 [LV.str a,LV.bool b] μ=
 cond (b) (
 callK (ρ.call 225 [LV.str a, LV.str ([48] : List UInt8)] μ) (fun v1 μ2 =>
 opt (aN v1) fun s5=>
 cond (decide (s5 = ([] : List UInt8))) (
 some (.ret (LV.str ([48]:List UInt8)) μ2)) (
 some (.ret (LV.str s5) μ2))) pP) (
 callK (ρ.call 226 [LV.str a, LV.str ([48] : List UInt8)] μ) (fun v6 μ7 =>
 opt (aN v6) fun s10=>
 cond (decide (s10 = ([] : List UInt8))) (
 some (.ret (LV.str ([48]:List UInt8)) μ7)) (
 some (.ret (LV.str s10) μ7))) pP):=by kernel_rfl
theorem XW (μ):aD E ρ 215 [] μ=
 some (.ret (LV.cv (CV.mview [Value.string ⟨⟨([60,61]:List UInt8)⟩⟩,Value.string ⟨⟨([62,61]:List UInt8)⟩⟩,Value.string ⟨⟨([61,61]:List UInt8)⟩⟩,Value.string ⟨⟨([47,61]:List UInt8)⟩⟩,Value.string ⟨⟨([60]:List UInt8)⟩⟩,Value.string ⟨⟨([62]:List UInt8)⟩⟩] [CV.str ([46,76,69,46]:List UInt8),CV.str ([46,71,69,46]:List UInt8),CV.str ([46,69,81,46]:List UInt8),CV.str ([46,78,69,46]:List UInt8),CV.str ([46,76,84,46]:List UInt8),CV.str ([46,71,84,46]:List UInt8)])) μ):=by kernel_rfl
end
end Go.Abs
