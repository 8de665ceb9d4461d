/-
  The statement TokensConstantsCardSaid, proved; part 6 of 8 of its proof.
  Normal forms. Printed by a program.
-/
import Derived.Test.YtfcjjankfjaapaaGreatDoorC3
set_option linter.all false
set_option linter.unusedSectionVars false
set_option linter.unusedVariables false
set_option maxRecDepth 1000000
namespace Go.Abs
open Go Go.Proofs
noncomputable def G10_3 (ρ : Rho) (x0 : List UInt8) (x1 : List UInt8) (x2 : List UInt8) (μ : Mu) : Option St := ρ.seg H10 [(6, 0)] (codeAt E.P 10 [1, 1])
 { fr := mkFr [(0, LV.str x0), (1, LV.str x1), (2, LV.str x2)], lam := [], pushed := false } μ
def XG10_3_0 (x6 : Bool) (μ : Mu) : St := .ret { fr := mkFr [(6, LV.bool x6)], lam := [], pushed := false } μ
noncomputable def G10_5 (ρ : Rho) (x0 : List UInt8) (x1 : List UInt8) (x2 : List UInt8) (μ : Mu) : Option St := ρ.seg H10 [(6, 0)] (codeAt E.P 10 [1, 1, 1])
 { fr := mkFr [(0, LV.str x0), (1, LV.str x1), (2, LV.str x2)], lam := [], pushed := false } μ
def XG10_5_0 (x6 : Bool) (μ : Mu) : St := .ret { fr := mkFr [(6, LV.bool x6)], lam := [], pushed := false } μ
noncomputable def G10_11 (ρ : Rho) (x1 : List UInt8) (x2 : List UInt8) (x9 : List UInt8) (x10 : Int) (x11 : List UInt8) (x12 : Int) (μ : Mu) : Option St := ρ.seg H10 [(6, 0)] (codeAt E.P 10 [1, 1, 1, 1, 1, 1, 1, 1])
 { fr := mkFr [(1, LV.str x1), (2, LV.str x2), (9, LV.str x9), (10, LV.int .i64 x10), (11, LV.str x11), (12, LV.int .i64 x12)], lam := [], pushed := false } μ
def XG10_11_0 (x6 : Bool) (μ : Mu) : St := .ret { fr := mkFr [(6, LV.bool x6)], lam := [], pushed := false } μ
noncomputable def G10_14 (ρ : Rho) (x2 : List UInt8) (x11 : List UInt8) (x12 : Int) (μ : Mu) : Option St := ρ.seg H10 [(6, 0)] (codeAt E.P 10 [1, 1, 1, 1, 1, 1, 1, 1, 1])
 { fr := mkFr [(2, LV.str x2), (11, LV.str x11), (12, LV.int .i64 x12)], lam := [], pushed := false } μ
def XG10_14_0 (x6 : Bool) (μ : Mu) : St := .ret { fr := mkFr [(6, LV.bool x6)], lam := [], pushed := false } μ
noncomputable def G10_16 (ρ : Rho) (x2 : List UInt8) (x11 : List UInt8) (x12 : Int) (μ : Mu) : Option St := ρ.seg H10 [(6, 0)] (codeAt E.P 10 [1, 1, 1, 1, 1, 1, 1, 1, 1, 1])
 { fr := mkFr [(2, LV.str x2), (11, LV.str x11), (12, LV.int .i64 x12)], lam := [], pushed := false } μ
def XG10_16_0 (x6 : Bool) (μ : Mu) : St := .ret { fr := mkFr [(6, LV.bool x6)], lam := [], pushed := false } μ
noncomputable def G10_18 (ρ : Rho) (x2 : List UInt8) (x11 : List UInt8) (x12 : Int) (μ : Mu) : Option St := ρ.seg H10 [(6, 0)] (codeAt E.P 10 [1, 1, 1, 1, 1, 1, 1, 1, 1, 1, 1])
 { fr := mkFr [(2, LV.str x2), (11, LV.str x11), (12, LV.int .i64 x12)], lam := [], pushed := false } μ
def XG10_18_0 (x6 : Bool) (μ : Mu) : St := .ret { fr := mkFr [(6, LV.bool x6)], lam := [], pushed := false } μ
def XG10_18_1 (pv : CV) (μ : Mu) : St := .panic pv { fr := mkFr [], lam := [], pushed := false } μ
def XG10_16_1 (pv : CV) (μ : Mu) : St := .panic pv { fr := mkFr [], lam := [], pushed := false } μ
def XG10_11_1 (pv : CV) (μ : Mu) : St := .panic pv { fr := mkFr [], lam := [], pushed := false } μ
def XG10_5_1 (pv : CV) (μ : Mu) : St := .panic pv { fr := mkFr [], lam := [], pushed := false } μ
def XG10_3_1 (pv : CV) (μ : Mu) : St := .panic pv { fr := mkFr [], lam := [], pushed := false } μ
theorem nfG10_18 (ρ : Rho) (x2 : List UInt8) (x11 : List UInt8) (x12 : Int) (μ : Mu) : segK E.P ρ H10 [(6, 0)] (codeAt E.P 10 [1, 1, 1, 1, 1, 1, 1, 1, 1, 1, 1])
 { fr := mkFr [(2, LV.str x2), (11, LV.str x11), (12, LV.int .i64 x12)], lam := [], pushed := false } μ =
 callK (ρ.call 37 [LV.str x11] μ) (fun v70 μ71 =>
 opt (getTup v70) fun xs74 =>
 opt (uncons xs74) fun q75 =>
 opt (getStr q75.1) fun s76 =>
 opt (uncons q75.2) fun q77 =>
 opt (getInt .i64 q77.1) fun n78 =>
 opt (isNilL q77.2) fun u79 =>
 cond (decide (x12 = (0 : Int))) (
 callK (ρ.call 42 [LV.str x2] μ71) (fun v80 μ81 =>
 opt (getStr v80) fun s84 =>
 cond (decide (x11 = s84)) (
 cond (decide (n78 = (0 : Int))) (
 some (XG10_18_0 (decide (s76 = x2)) μ81)) (
 some (XG10_18_0 false μ81))) (
 some (XG10_18_0 false μ81))) (fun v83 μ82 =>
 some (XG10_18_1 v83 μ82))) (
 some (XG10_18_0 false μ71))) (fun v73 μ72 =>
 some (XG10_18_1 v73 μ72)) := by kernel_rfl
theorem nfXG10_18_0 (ρ : Rho) (x6 : Bool) (μ : Mu) : runK E.P ρ H10 [] (XG10_18_0 x6 μ) (segEnd H10 [(6, 0)]) =
 some (XG10_16_0 x6 μ) := by kernel_rfl
theorem nfG10_16 (ρ : Rho) (x2 : List UInt8) (x11 : List UInt8) (x12 : Int) (μ : Mu) : segK E.P ρ H10 [(6, 0)] (codeAt E.P 10 [1, 1, 1, 1, 1, 1, 1, 1, 1, 1])
 { fr := mkFr [(2, LV.str x2), (11, LV.str x11), (12, LV.int .i64 x12)], lam := [], pushed := false } μ =
 callK (ρ.call 41 [LV.str x2, LV.int .i64 (60 : Int)] μ) (fun v65 μ66 =>
 opt (getBool v65) fun b69 =>
 cond (!b69) (
 cond (decide (x12 = (3 : Int))) (
 some (XG10_16_0 (decide (x11 = ([] : List UInt8))) μ66)) (
 some (XG10_16_0 false μ66))) (
 opt (G10_18 ρ x2 x11 x12 μ66) fun st85 => runK E.P ρ H10 [] st85 (segEnd H10 [(6, 0)]))) (fun v68 μ67 =>
 some (XG10_16_1 v68 μ67)) := by kernel_rfl
theorem nfXG10_16_0 (ρ : Rho) (x6 : Bool) (μ : Mu) : runK E.P ρ H10 [] (XG10_16_0 x6 μ) (segEnd H10 [(6, 0)]) =
 some (XG10_14_0 x6 μ) := by kernel_rfl
theorem nfG10_14 (ρ : Rho) (x2 : List UInt8) (x11 : List UInt8) (x12 : Int) (μ : Mu) : segK E.P ρ H10 [(6, 0)] (codeAt E.P 10 [1, 1, 1, 1, 1, 1, 1, 1, 1])
 { fr := mkFr [(2, LV.str x2), (11, LV.str x11), (12, LV.int .i64 x12)], lam := [], pushed := false } μ =
 cond (decide ((60 : Int) < (List.length x2 : Int))) (
 cond (decide (x12 = (8 : Int))) (
 some (XG10_14_0 (decide (x11 = ([] : List UInt8))) μ)) (
 some (XG10_14_0 false μ))) (
 opt (G10_16 ρ x2 x11 x12 μ) fun st86 => runK E.P ρ H10 [] st86 (segEnd H10 [(6, 0)])) := by kernel_rfl
theorem nfXG10_14_0 (ρ : Rho) (x6 : Bool) (μ : Mu) : runK E.P ρ H10 [] (XG10_14_0 x6 μ) (segEnd H10 [(6, 0)]) =
 some (XG10_11_0 x6 μ) := by kernel_rfl
theorem nfG10_11 (ρ : Rho) (x1 : List UInt8) (x2 : List UInt8) (x9 : List UInt8) (x10 : Int) (x11 : List UInt8) (x12 : Int) (μ : Mu) : segK E.P ρ H10 [(6, 0)] (codeAt E.P 10 [1, 1, 1, 1, 1, 1, 1, 1])
 { fr := mkFr [(1, LV.str x1), (2, LV.str x2), (9, LV.str x9), (10, LV.int .i64 x10), (11, LV.str x11), (12, LV.int .i64 x12)], lam := [], pushed := false } μ =
 callK (ρ.call 40 [LV.str x1] μ) (fun v55 μ56 =>
 opt (getTup v55) fun xs59 =>
 opt (uncons xs59) fun q60 =>
 opt (getStr q60.1) fun s61 =>
 opt (uncons q60.2) fun q62 =>
 opt (getBool q62.1) fun b63 =>
 opt (isNilL q62.2) fun u64 =>
 cond (b63) (
 cond (!decide (x10 = (0 : Int))) (
 some (XG10_11_0 false μ56)) (
 cond (!decide (x9 = s61)) (
 some (XG10_11_0 false μ56)) (
 cond (!b63) (
 cond (!decide (x10 = (3 : Int))) (
 some (XG10_11_0 false μ56)) (
 cond (!decide (x9 = ([] : List UInt8))) (
 some (XG10_11_0 false μ56)) (
 opt (G10_14 ρ x2 x11 x12 μ56) fun st87 => runK E.P ρ H10 [] st87 (segEnd H10 [(6, 0)])))) (
 opt (G10_14 ρ x2 x11 x12 μ56) fun st88 => runK E.P ρ H10 [] st88 (segEnd H10 [(6, 0)]))))) (
 cond (!b63) (
 cond (!decide (x10 = (3 : Int))) (
 some (XG10_11_0 false μ56)) (
 cond (!decide (x9 = ([] : List UInt8))) (
 some (XG10_11_0 false μ56)) (
 opt (G10_14 ρ x2 x11 x12 μ56) fun st89 => runK E.P ρ H10 [] st89 (segEnd H10 [(6, 0)])))) (
 opt (G10_14 ρ x2 x11 x12 μ56) fun st90 => runK E.P ρ H10 [] st90 (segEnd H10 [(6, 0)])))) (fun v58 μ57 =>
 some (XG10_11_1 v58 μ57)) := by kernel_rfl
theorem nfXG10_11_0 (ρ : Rho) (x6 : Bool) (μ : Mu) : runK E.P ρ H10 [] (XG10_11_0 x6 μ) (segEnd H10 [(6, 0)]) =
 some (XG10_5_0 x6 μ) := by kernel_rfl
theorem nfG10_5 (ρ : Rho) (x0 : List UInt8) (x1 : List UInt8) (x2 : List UInt8) (μ : Mu) : segK E.P ρ H10 [(6, 0)] (codeAt E.P 10 [1, 1, 1])
 { fr := mkFr [(0, LV.str x0), (1, LV.str x1), (2, LV.str x2)], lam := [], pushed := false } μ =
 callK (ρ.call 36 [LV.str x0] μ) (fun v11 μ12 =>
 opt (getTup v11) fun xs15 =>
 opt (uncons xs15) fun q16 =>
 rd23 q16.1 fun n17 n18 s19 =>
 opt (uncons q16.2) fun q20 =>
 opt (getInt .i64 q20.1) fun n21 =>
 opt (isNilL q20.2) fun u22 =>
 callK (ρ.call 37 [LV.str x1] μ12) (fun v23 μ24 =>
 opt (getTup v23) fun xs27 =>
 opt (uncons xs27) fun q28 =>
 opt (getStr q28.1) fun s29 =>
 opt (uncons q28.2) fun q30 =>
 opt (getInt .i64 q30.1) fun n31 =>
 opt (isNilL q30.2) fun u32 =>
 callK (ρ.call 38 [LV.str x2] μ24) (fun v33 μ34 =>
 opt (getTup v33) fun xs37 =>
 opt (uncons xs37) fun q38 =>
 opt (getStr q38.1) fun s39 =>
 opt (uncons q38.2) fun q40 =>
 opt (getInt .i64 q40.1) fun n41 =>
 opt (isNilL q40.2) fun u42 =>
 callK (ρ.call 39 [LV.str x0] μ34) (fun v43 μ44 =>
 opt (getTup v43) fun xs47 =>
 opt (uncons xs47) fun q48 =>
 rd23 q48.1 fun n49 n50 s51 =>
 opt (uncons q48.2) fun q52 =>
 opt (getInt .i64 q52.1) fun n53 =>
 opt (isNilL q52.2) fun u54 =>
 cond (!decide (n21 = n53)) (
 some (XG10_5_0 false μ44)) (
 cond (!(decide (n17 = n49) && (decide (n18 = n50) && (decide (s19 = s51) && true)))) (
 some (XG10_5_0 false μ44)) (
 opt (G10_11 ρ x1 x2 s29 n31 s39 n41 μ44) fun st91 => runK E.P ρ H10 [] st91 (segEnd H10 [(6, 0)])))) (fun v46 μ45 =>
 some (XG10_5_1 v46 μ45))) (fun v36 μ35 =>
 some (XG10_5_1 v36 μ35))) (fun v26 μ25 =>
 some (XG10_5_1 v26 μ25))) (fun v14 μ13 =>
 some (XG10_5_1 v14 μ13)) := by kernel_rfl
theorem nfXG10_5_0 (ρ : Rho) (x6 : Bool) (μ : Mu) : runK E.P ρ H10 [] (XG10_5_0 x6 μ) (segEnd H10 [(6, 0)]) =
 some (XG10_3_0 x6 μ) := by kernel_rfl
theorem nfG10_3 (ρ : Rho) (x0 : List UInt8) (x1 : List UInt8) (x2 : List UInt8) (μ : Mu) : segK E.P ρ H10 [(6, 0)] (codeAt E.P 10 [1, 1])
 { fr := mkFr [(0, LV.str x0), (1, LV.str x1), (2, LV.str x2)], lam := [], pushed := false } μ =
 callK (ρ.call 16 [LV.str x0] μ) (fun v6 μ7 =>
 opt (getBool v6) fun b10 =>
 cond (!b10) (
 some (XG10_3_0 true μ7)) (
 cond (decide ((200 : Int) < (List.length x1 : Int))) (
 some (XG10_3_0 true μ7)) (
 cond (decide ((200 : Int) < (List.length x2 : Int))) (
 some (XG10_3_0 true μ7)) (
 opt (G10_5 ρ x0 x1 x2 μ7) fun st92 => runK E.P ρ H10 [] st92 (segEnd H10 [(6, 0)]))))) (fun v9 μ8 =>
 some (XG10_3_1 v9 μ8)) := by kernel_rfl
theorem nfXG10_3_0 (ρ : Rho) (x6 : Bool) (μ : Mu) : runK E.P ρ H10 [] (XG10_3_0 x6 μ) (bodyEnd E.P (resOf E.P 10)) =
 some (.ret (LV.bool x6) μ) := by kernel_rfl
theorem nf10 (ρ : Rho) (a : List UInt8) (b : List UInt8) (c : List UInt8) (μ : Mu) : callStep E ρ 10 [LV.str a, LV.str b, LV.str c] μ =
 callK (ρ.call 11 [] μ) (fun v1 μ2 =>
 opt (getBool v1) fun b5 =>
 cond (!b5) (
 some (.ret (LV.bool false) μ2)) (
 opt (G10_3 ρ a b c μ2) fun st93 => runK E.P ρ H10 [] st93 (bodyEnd E.P (resOf E.P 10)))) (fun v4 μ3 =>
 guardB (below (List.length μ3) v4) (some (.panic v4 μ3))) := by kernel_rfl
noncomputable def G12_5 (ρ : Rho) (x1 : List UInt8) (μ : Mu) : Option St := ρ.seg H12 [] (codeAt E.P 12 [1, 0, 1, 0, 1, 0, 1])
 { fr := mkFr [(1, LV.str x1)], lam := [], pushed := false } μ
def XG12_5_0 (x4 : Int) (μ : Mu) : St := .ret { fr := mkFr [(4, LV.int .i64 x4)], lam := [], pushed := false } μ
def XG12_5_1 (pv : CV) (μ : Mu) : St := .panic pv { fr := mkFr [], lam := [], pushed := false } μ
noncomputable def G12_13 (ρ : Rho) (x0 : Int) (x1 : List UInt8) (x39 : Bool) (μ : Mu) : Option St := ρ.seg H12 [] (codeAt E.P 12 [1, 0, 1, 0, 1, 1, 1])
 { fr := mkFr [(0, LV.int .i64 x0), (1, LV.str x1), (39, LV.bool x39)], lam := [], pushed := false } μ
def XG12_13_0 (x4 : Int) (μ : Mu) : St := .ret { fr := mkFr [(4, LV.int .i64 x4)], lam := [], pushed := false } μ
def XG12_13_1 (pv : CV) (μ : Mu) : St := .panic pv { fr := mkFr [], lam := [], pushed := false } μ
def XG12_13_2 (μ : Mu) : St := .norm { fr := mkFr [], lam := [], pushed := false } μ
theorem nfG12_5 (ρ : Rho) (x1 : List UInt8) (μ : Mu) : segK E.P ρ H12 [] (codeAt E.P 12 [1, 0, 1, 0, 1, 0, 1])
 { fr := mkFr [(1, LV.str x1)], lam := [], pushed := false } μ =
 callK (ρ.call 45 [LV.str x1] μ) (fun v7 μ8 =>
 opt (getTup v7) fun xs11 =>
 opt (uncons xs11) fun q12 =>
 opt (getInt .i64 q12.1) fun n13 =>
 opt (uncons q12.2) fun q14 =>
 opt (getCv q14.1) fun c15 =>
 opt (isNilL q14.2) fun u16 =>
 cond (decide ((2147483647 : Int) < n13)) (
 some (XG12_5_0 (28 : Int) μ8)) (
 some (XG12_5_0 (0 : Int) μ8))) (fun v10 μ9 =>
 some (XG12_5_1 v10 μ9)) := by kernel_rfl
theorem nfXG12_5_0 (ρ : Rho) (x4 : Int) (μ : Mu) : runK E.P ρ H12 [.block 0, .seq (codeAt E.P 12 [1, 1])] (XG12_5_0 x4 μ) (bodyEnd E.P (resOf E.P 12)) =
 some (.ret (LV.int .i64 x4) μ) := by kernel_rfl
theorem nfG12_13 (ρ : Rho) (x0 : Int) (x1 : List UInt8) (x39 : Bool) (μ : Mu) : segK E.P ρ H12 [] (codeAt E.P 12 [1, 0, 1, 0, 1, 1, 1])
 { fr := mkFr [(0, LV.int .i64 x0), (1, LV.str x1), (39, LV.bool x39)], lam := [], pushed := false } μ =
 cond (x39) (
 callK (ρ.call 46 [LV.str x1] μ) (fun v19 μ20 =>
 opt (getTup v19) fun xs23 =>
 opt (uncons xs23) fun q24 =>
 rd23 q24.1 fun n25 n26 s27 =>
 opt (uncons q24.2) fun q28 =>
 opt (getBool q28.1) fun b29 =>
 opt (isNilL q28.2) fun u30 =>
 cond (!b29) (
 some (XG12_13_0 (3 : Int) μ20)) (
 cond (!decide (n25 = (1 : Int))) (
 some (XG12_13_0 (3 : Int) μ20)) (
 cond (!decide (n26 = x0)) (
 some (XG12_13_0 (3 : Int) μ20)) (
 cond (!decide (s27 = x1)) (
 some (XG12_13_0 (3 : Int) μ20)) (
 some (XG12_13_0 (0 : Int) μ20)))))) (fun v22 μ21 =>
 some (XG12_13_1 v22 μ21))) (
 some (XG12_13_2 μ)) := by kernel_rfl
theorem nfXG12_13_0 (ρ : Rho) (x4 : Int) (μ : Mu) : runK E.P ρ H12 [.block 0, .seq (codeAt E.P 12 [1, 1])] (XG12_13_0 x4 μ) (bodyEnd E.P (resOf E.P 12)) =
 some (.ret (LV.int .i64 x4) μ) := by kernel_rfl
theorem nfXG12_13_2 (ρ : Rho) (μ : Mu) : runK E.P ρ H12 [.block 0, .seq (codeAt E.P 12 [1, 1])] (XG12_13_2 μ) (bodyEnd E.P (resOf E.P 12)) =
 some (.ret (LV.int .i64 (15 : Int)) μ) := by kernel_rfl
theorem nf12 (ρ : Rho) (a : Int) (b : List UInt8) (μ : Mu) : callStep E ρ 12 [LV.int .i64 a, LV.str b] μ =
 cond (decide (a = (0 : Int))) (
 cond (decide (b = ([] : List UInt8))) (
 some (.ret (LV.int .i64 (3 : Int)) μ)) (
 cond (decide ((10 : Int) < (List.length b : Int))) (
 some (.ret (LV.int .i64 (3 : Int)) μ)) (
 callK (ρ.call 43 [LV.str b, LV.cv (CV.clo 44 [])] μ) (fun v1 μ2 =>
 opt (getBool v1) fun b5 =>
 cond (b5) (
 some (.ret (LV.int .i64 (3 : Int)) μ2)) (
 opt (strAt b (0 : Int)) fun y6 =>
 cond (decide ((y6.toNat : Int) = (48 : Int))) (
 cond (!decide (b = ([48] : List UInt8))) (
 some (.ret (LV.int .i64 (3 : Int)) μ2)) (
 opt (G12_5 ρ b μ2) fun st17 => runK E.P ρ H12 [.block 0, .seq (codeAt E.P 12 [1, 1])] st17 (bodyEnd E.P (resOf E.P 12)))) (
 opt (G12_5 ρ b μ2) fun st18 => runK E.P ρ H12 [.block 0, .seq (codeAt E.P 12 [1, 1])] st18 (bodyEnd E.P (resOf E.P 12))))) (fun v4 μ3 =>
 guardB (below (List.length μ3) v4) (some (.panic v4 μ3)))))) (
 cond (decide (a = (1 : Int))) (
 opt (G12_13 ρ a b (decide (a = (1 : Int))) μ) fun st31 => runK E.P ρ H12 [.block 0, .seq (codeAt E.P 12 [1, 1])] st31 (bodyEnd E.P (resOf E.P 12))) (
 cond (decide (a = (2 : Int))) (
 opt (G12_13 ρ a b (decide (a = (2 : Int))) μ) fun st32 => runK E.P ρ H12 [.block 0, .seq (codeAt E.P 12 [1, 1])] st32 (bodyEnd E.P (resOf E.P 12))) (
 cond (decide (a = (5 : Int))) (
 opt (G12_13 ρ a b (decide (a = (5 : Int))) μ) fun st33 => runK E.P ρ H12 [.block 0, .seq (codeAt E.P 12 [1, 1])] st33 (bodyEnd E.P (resOf E.P 12))) (
 opt (G12_13 ρ a b (decide (a = (6 : Int))) μ) fun st34 => runK E.P ρ H12 [.block 0, .seq (codeAt E.P 12 [1, 1])] st34 (bodyEnd E.P (resOf E.P 12)))))) := by kernel_rfl
noncomputable def G13_3 (ρ : Rho) (x0 : Int) (x1 : List UInt8) (μ : Mu) : Option St := ρ.seg H13 [(4, 0)] (codeAt E.P 13 [1, 1])
 { fr := mkFr [(0, LV.int .i64 x0), (1, LV.str x1)], lam := [], pushed := false } μ
def XG13_3_0 (x4 : Int) (μ : Mu) : St := .ret { fr := mkFr [(4, LV.int .i64 x4)], lam := [], pushed := false } μ
noncomputable def G13_5 (ρ : Rho) (x0 : Int) (x1 : List UInt8) (μ : Mu) : Option St := ρ.seg H13 [(4, 0)] (codeAt E.P 13 [1, 1, 1])
 { fr := mkFr [(0, LV.int .i64 x0), (1, LV.str x1)], lam := [], pushed := false } μ
def XG13_5_0 (x4 : Int) (μ : Mu) : St := .ret { fr := mkFr [(4, LV.int .i64 x4)], lam := [], pushed := false } μ
noncomputable def G13_7 (ρ : Rho) (x0 : Int) (x1 : List UInt8) (μ : Mu) : Option St := ρ.seg H13 [(4, 0)] (codeAt E.P 13 [1, 1, 1, 1])
 { fr := mkFr [(0, LV.int .i64 x0), (1, LV.str x1)], lam := [], pushed := false } μ
def XG13_7_0 (x4 : Int) (μ : Mu) : St := .ret { fr := mkFr [(4, LV.int .i64 x4)], lam := [], pushed := false } μ
def XG13_7_1 (pv : CV) (μ : Mu) : St := .panic pv { fr := mkFr [], lam := [], pushed := false } μ
def XG13_5_1 (pv : CV) (μ : Mu) : St := .panic pv { fr := mkFr [], lam := [], pushed := false } μ
def XG13_3_1 (pv : CV) (μ : Mu) : St := .panic pv { fr := mkFr [], lam := [], pushed := false } μ
theorem nfG13_7 (ρ : Rho) (x0 : Int) (x1 : List UInt8) (μ : Mu) : segK E.P ρ H13 [(4, 0)] (codeAt E.P 13 [1, 1, 1, 1])
 { fr := mkFr [(0, LV.int .i64 x0), (1, LV.str x1)], lam := [], pushed := false } μ =
 callK (ρ.call 18 [LV.str x1] μ) (fun v17 μ18 =>
 opt (getTup v17) fun xs21 =>
 opt (uncons xs21) fun q22 =>
 opt (getSl q22.1) fun l23 =>
 opt (uncons q22.2) fun q24 =>
 opt (getInt .i64 q24.1) fun n25 =>
 opt (uncons q24.2) fun q26 =>
 opt (getInt .i64 q26.1) fun n27 =>
 opt (isNilL q26.2) fun u28 =>
 cond (!decide (n27 = (0 : Int))) (
 some (XG13_7_0 (3 : Int) μ18)) (
 cond (!decide ((List.length l23 : Int) = (1 : Int))) (
 some (XG13_7_0 (3 : Int) μ18)) (
 opt (slAt l23 (0 : Int)) fun c29 =>
 rd23 (LV.cv c29) fun n30 n31 s32 =>
 cond (!(decide (n30 = (1 : Int)) && (decide (n31 = x0) && (decide (s32 = x1) && true)))) (
 some (XG13_7_0 (3 : Int) μ18)) (
 some (XG13_7_0 (0 : Int) μ18))))) (fun v20 μ19 =>
 some (XG13_7_1 v20 μ19)) := by kernel_rfl
theorem nfXG13_7_0 (ρ : Rho) (x4 : Int) (μ : Mu) : runK E.P ρ H13 [] (XG13_7_0 x4 μ) (segEnd H13 [(4, 0)]) =
 some (XG13_5_0 x4 μ) := by kernel_rfl
theorem nfG13_5 (ρ : Rho) (x0 : Int) (x1 : List UInt8) (μ : Mu) : segK E.P ρ H13 [(4, 0)] (codeAt E.P 13 [1, 1, 1])
 { fr := mkFr [(0, LV.int .i64 x0), (1, LV.str x1)], lam := [], pushed := false } μ =
 cond (decide ((122 : Int) < (List.length x1 : Int))) (
 some (XG13_5_0 (3 : Int) μ)) (
 callK (ρ.call 48 [LV.str x1] μ) (fun v12 μ13 =>
 opt (getInt .i64 v12) fun n16 =>
 cond (!decide (n16 = (0 : Int))) (
 some (XG13_5_0 (3 : Int) μ13)) (
 opt (G13_7 ρ x0 x1 μ13) fun st33 => runK E.P ρ H13 [] st33 (segEnd H13 [(4, 0)]))) (fun v15 μ14 =>
 some (XG13_5_1 v15 μ14))) := by kernel_rfl
theorem nfXG13_5_0 (ρ : Rho) (x4 : Int) (μ : Mu) : runK E.P ρ H13 [] (XG13_5_0 x4 μ) (segEnd H13 [(4, 0)]) =
 some (XG13_3_0 x4 μ) := by kernel_rfl
theorem nfG13_3 (ρ : Rho) (x0 : Int) (x1 : List UInt8) (μ : Mu) : segK E.P ρ H13 [(4, 0)] (codeAt E.P 13 [1, 1])
 { fr := mkFr [(0, LV.int .i64 x0), (1, LV.str x1)], lam := [], pushed := false } μ =
 cond (decide (x0 = (0 : Int))) (
 cond (decide ((List.length x1 : Int) = (10 : Int))) (
 callK (ρ.call 47 [LV.str x1, LV.int .i64 (0 : Int)] μ) (fun v6 μ7 =>
 opt (getInt .i64 v6) fun n10 =>
 cond (decide (n10 = (10 : Int))) (
 opt (strAt x1 (0 : Int)) fun y11 =>
 cond (!decide ((y11.toNat : Int) = (48 : Int))) (
 cond (!(Op.bytesLess x1 ([50, 49, 52, 55, 52, 56, 51, 54, 52, 55] : List UInt8) || decide (x1 = ([50, 49, 52, 55, 52, 56, 51, 54, 52, 55] : List UInt8)))) (
 some (XG13_3_0 (28 : Int) μ7)) (
 opt (G13_5 ρ x0 x1 μ7) fun st34 => runK E.P ρ H13 [] st34 (segEnd H13 [(4, 0)]))) (
 opt (G13_5 ρ x0 x1 μ7) fun st35 => runK E.P ρ H13 [] st35 (segEnd H13 [(4, 0)]))) (
 opt (G13_5 ρ x0 x1 μ7) fun st36 => runK E.P ρ H13 [] st36 (segEnd H13 [(4, 0)]))) (fun v9 μ8 =>
 some (XG13_3_1 v9 μ8))) (
 opt (G13_5 ρ x0 x1 μ) fun st37 => runK E.P ρ H13 [] st37 (segEnd H13 [(4, 0)]))) (
 opt (G13_5 ρ x0 x1 μ) fun st38 => runK E.P ρ H13 [] st38 (segEnd H13 [(4, 0)])) := by kernel_rfl
theorem nfXG13_3_0 (ρ : Rho) (x4 : Int) (μ : Mu) : runK E.P ρ H13 [] (XG13_3_0 x4 μ) (bodyEnd E.P (resOf E.P 13)) =
 some (.ret (LV.int .i64 x4) μ) := by kernel_rfl
theorem nf13 (ρ : Rho) (a : Int) (b : List UInt8) (μ : Mu) : callStep E ρ 13 [LV.int .i64 a, LV.str b] μ =
 callK (ρ.call 23 [LV.int .i64 a, LV.int .i64 (0 : Int), LV.int .i64 (6 : Int)] μ) (fun v1 μ2 =>
 opt (getBool v1) fun b5 =>
 cond (!b5) (
 some (.ret (LV.int .i64 (15 : Int)) μ2)) (
 cond (decide (a = (3 : Int))) (
 some (.ret (LV.int .i64 (15 : Int)) μ2)) (
 cond (decide (a = (4 : Int))) (
 some (.ret (LV.int .i64 (15 : Int)) μ2)) (
 opt (G13_3 ρ a b μ2) fun st39 => runK E.P ρ H13 [] st39 (bodyEnd E.P (resOf E.P 13)))))) (fun v4 μ3 =>
 guardB (below (List.length μ3) v4) (some (.panic v4 μ3))) := by kernel_rfl
theorem nf16 (ρ : Rho) (a : List UInt8) (μ : Mu) : callStep E ρ 16 [LV.str a] μ =
 cond (decide ((List.length a : Int) ≤ (200 : Int))) (
 some (.ret (LV.bool true) μ)) (
 cond (decide ((1320 : Int) < (List.length a : Int))) (
 some (.ret (LV.bool (decide ((List.length a : Int) ≤ (1340 : Int)))) μ)) (
 some (.ret (LV.bool false) μ))) := by kernel_rfl
noncomputable def G18_4 (ρ : Rho) (x0 : List UInt8) (μ : Mu) : Option St := ρ.seg H18 [(2, 2), (3, 0), (4, 0)] (codeAt E.P 18 [1, 1])
 { fr := mkFr [(0, LV.str x0)], lam := [], pushed := false } μ
noncomputable def L18_6 (ρ : Rho) (x0 : List UInt8) (x6 : List CV) (x7 : Int) (μ : Mu) : Option St := ρ.loop H18 [(6, 1)] (codeAt E.P 18 [1, 1, 1, 1, 0, 0, 0])
 { fr := mkFr [(0, LV.str x0), (6, LV.osl x6), (7, LV.int .i64 x7)], lam := [], pushed := false } μ
noncomputable def G18_9 (ρ : Rho) (x0 : List UInt8) (x6 : List CV) (x7 : Int) (μ : Mu) : Option St := ρ.seg H18 [(0, 0), (6, 1), (7, 0)] (codeAt E.P 18 [1, 1, 1, 1, 0, 0, 0, 1, 0, 1])
 { fr := mkFr [(0, LV.str x0), (6, LV.osl x6), (7, LV.int .i64 x7)], lam := [], pushed := false } μ
def XG18_9_0 (x2 : List CV) (x3 : Int) (x4 : Int) (μ : Mu) : St := .ret { fr := mkFr [(2, LV.cv (CV.sl x2)), (3, LV.int .i64 x3), (4, LV.int .i64 x4)], lam := [], pushed := false } μ
noncomputable def G18_12 (ρ : Rho) (x0 : List UInt8) (x6 : List CV) (o0_0 : Int) (o0_1 : Int) (o0_2 : List UInt8) (o0_3 : Int) (o0_4 : Int) (μ : Mu) : Option St := ρ.seg H18 [(0, 0), (6, 1), (7, 0)] (codeAt E.P 18 [1, 1, 1, 1, 0, 0, 0, 1, 0, 1, 1, 1])
 { fr := mkFr [(0, LV.str x0), (6, LV.osl x6), (8, LV.loc 0 0)], lam := [Ob.cells [LV.int .i64 o0_0, LV.int .i64 o0_1, LV.str o0_2, LV.int .i64 o0_3, LV.int .i64 o0_4]], pushed := false } μ
def XG18_12_0 (x0 : List UInt8) (x6 : List CV) (x7 : Int) (μ : Mu) : St := .norm { fr := mkFr [(0, LV.str x0), (6, LV.osl x6), (7, LV.int .i64 x7)], lam := [], pushed := false } μ
def XG18_9_1 (x0 : List UInt8) (x6 : List CV) (x7 : Int) (μ : Mu) : St := .norm { fr := mkFr [(0, LV.str x0), (6, LV.osl x6), (7, LV.int .i64 x7)], lam := [], pushed := false } μ
def XG18_9_2 (pv : CV) (μ : Mu) : St := .panic pv { fr := mkFr [], lam := [], pushed := false } μ
def XL18_6_0 (x2 : List CV) (x3 : Int) (x4 : Int) (μ : Mu) : St := .ret { fr := mkFr [(2, LV.cv (CV.sl x2)), (3, LV.int .i64 x3), (4, LV.int .i64 x4)], lam := [], pushed := false } μ
def XL18_6_2 (x6 : List CV) (μ : Mu) : St := .exit 0 { fr := mkFr [(6, LV.osl x6)], lam := [], pushed := false } μ
def XG18_4_0 (x2 : List CV) (x3 : Int) (x4 : Int) (μ : Mu) : St := .ret { fr := mkFr [(2, LV.cv (CV.sl x2)), (3, LV.int .i64 x3), (4, LV.int .i64 x4)], lam := [], pushed := false } μ
theorem nfG18_12 (ρ : Rho) (x0 : List UInt8) (x6 : List CV) (o0_0 : Int) (o0_1 : Int) (o0_2 : List UInt8) (o0_3 : Int) (o0_4 : Int) (μ : Mu) : segK E.P ρ H18 [(0, 0), (6, 1), (7, 0)] (codeAt E.P 18 [1, 1, 1, 1, 0, 0, 0, 1, 0, 1, 1, 1])
 { fr := mkFr [(0, LV.str x0), (6, LV.osl x6), (8, LV.loc 0 0)], lam := [Ob.cells [LV.int .i64 o0_0, LV.int .i64 o0_1, LV.str o0_2, LV.int .i64 o0_3, LV.int .i64 o0_4]], pushed := false } μ =
 guardB (appOK 3 x6 [CV.agg [CV.int .i64 o0_0, CV.int .i64 o0_1, CV.str o0_2]]) (
 some (XG18_12_0 x0 (x6 ++ [CV.agg [CV.int .i64 o0_0, CV.int .i64 o0_1, CV.str o0_2]]) o0_3 μ)) := by kernel_rfl
theorem nfXG18_12_0 (ρ : Rho) (x0 : List UInt8) (x6 : List CV) (x7 : Int) (μ : Mu) : runK E.P ρ H18 [] (XG18_12_0 x0 x6 x7 μ) (segEnd H18 [(0, 0), (6, 1), (7, 0)]) =
 some (XG18_9_1 x0 x6 x7 μ) := by kernel_rfl
theorem nfG18_9 (ρ : Rho) (x0 : List UInt8) (x6 : List CV) (x7 : Int) (μ : Mu) : segK E.P ρ H18 [(0, 0), (6, 1), (7, 0)] (codeAt E.P 18 [1, 1, 1, 1, 0, 0, 0, 1, 0, 1])
 { fr := mkFr [(0, LV.str x0), (6, LV.osl x6), (7, LV.int .i64 x7)], lam := [], pushed := false } μ =
 callK (ρ.call 58 [LV.str x0, LV.int .i64 x7] μ) (fun v7 μ8 =>
 rd88 v7 fun n11 n12 s13 n14 n15 =>
 cond (!decide (n15 = (0 : Int))) (
 some (XG18_9_0 [] x7 n15 μ8)) (
 opt (G18_12 ρ x0 x6 n11 n12 s13 n14 n15 μ8) fun st16 => runK E.P ρ H18 [] st16 (segEnd H18 [(0, 0), (6, 1), (7, 0)]))) (fun v10 μ9 =>
 some (XG18_9_2 v10 μ9)) := by kernel_rfl
theorem nfXG18_9_0 (ρ : Rho) (x2 : List CV) (x3 : Int) (x4 : Int) (μ : Mu) : runK E.P ρ H18 [.block 1] (XG18_9_0 x2 x3 x4 μ) (roundEnd E.P ρ H18 [(6, 1)] (codeAt E.P 18 [1, 1, 1, 1, 0, 0, 0])) =
 some (XL18_6_0 x2 x3 x4 μ) := by kernel_rfl
theorem nfXG18_9_1 (ρ : Rho) (x0 : List UInt8) (x6 : List CV) (x7 : Int) (μ : Mu) : runK E.P ρ H18 [.block 1] (XG18_9_1 x0 x6 x7 μ) (roundEnd E.P ρ H18 [(6, 1)] (codeAt E.P 18 [1, 1, 1, 1, 0, 0, 0])) =
 L18_6 ρ x0 x6 x7 μ := by kernel_rfl
theorem nfL18_6 (ρ : Rho) (x0 : List UInt8) (x6 : List CV) (x7 : Int) (μ : Mu) : roundK E.P ρ H18 [(6, 1)] (codeAt E.P 18 [1, 1, 1, 1, 0, 0, 0])
 { fr := mkFr [(0, LV.str x0), (6, LV.osl x6), (7, LV.int .i64 x7)], lam := [], pushed := false } μ =
 cond (decide (x7 < (List.length x0 : Int))) (
 opt (strAt x0 x7) fun y6 =>
 cond (decide ((y6.toNat : Int) = (32 : Int))) (
 L18_6 ρ x0 x6 (IntKind.wrap .i64 (x7 + (1 : Int))) μ) (
 opt (G18_9 ρ x0 x6 x7 μ) fun st17 => runK E.P ρ H18 [.block 1] st17 (roundEnd E.P ρ H18 [(6, 1)] (codeAt E.P 18 [1, 1, 1, 1, 0, 0, 0])))) (
 some (XL18_6_2 x6 μ)) := by kernel_rfl
theorem nfXL18_6_0 (ρ : Rho) (x2 : List CV) (x3 : Int) (x4 : Int) (μ : Mu) : runK E.P ρ H18 [.block 0, .seq (codeAt E.P 18 [1, 1, 1, 1, 1])] (XL18_6_0 x2 x3 x4 μ) (segEnd H18 [(2, 2), (3, 0), (4, 0)]) =
 some (XG18_4_0 x2 x3 x4 μ) := by kernel_rfl
theorem nfXL18_6_2 (ρ : Rho) (x6 : List CV) (μ : Mu) : runK E.P ρ H18 [.block 0, .seq (codeAt E.P 18 [1, 1, 1, 1, 1])] (XL18_6_2 x6 μ) (segEnd H18 [(2, 2), (3, 0), (4, 0)]) =
 cond (decide ((300 : Int) < (List.length x6 : Int))) (
 some (XG18_4_0 [] (0 : Int) (8 : Int) μ)) (
 some (XG18_4_0 x6 (List.length x6 : Int) (0 : Int) μ)) := by kernel_rfl
theorem nfG18_4 (ρ : Rho) (x0 : List UInt8) (μ : Mu) : segK E.P ρ H18 [(2, 2), (3, 0), (4, 0)] (codeAt E.P 18 [1, 1])
 { fr := mkFr [(0, LV.str x0)], lam := [], pushed := false } μ =
 opt (L18_6 ρ x0 [] (0 : Int) μ) fun st18 => runK E.P ρ H18 [.block 0, .seq (codeAt E.P 18 [1, 1, 1, 1, 1])] st18 (segEnd H18 [(2, 2), (3, 0), (4, 0)]) := by kernel_rfl
theorem nfXG18_4_0 (ρ : Rho) (x2 : List CV) (x3 : Int) (x4 : Int) (μ : Mu) : runK E.P ρ H18 [] (XG18_4_0 x2 x3 x4 μ) (bodyEnd E.P (resOf E.P 18)) =
 some (.ret (LV.ltup [LV.cv (CV.sl x2), LV.int .i64 x3, LV.int .i64 x4]) μ) := by kernel_rfl
theorem nf18 (ρ : Rho) (a : List UInt8) (μ : Mu) : callStep E ρ 18 [LV.str a] μ =
 callK (ρ.call 48 [LV.str a] μ) (fun v1 μ2 =>
 opt (getInt .i64 v1) fun n5 =>
 cond (!decide (n5 = (0 : Int))) (
 some (.ret (LV.ltup [LV.cv (CV.v (.slice none 0 0)), LV.int .i64 (0 : Int), LV.int .i64 n5]) μ2)) (
 opt (G18_4 ρ a μ2) fun st19 => runK E.P ρ H18 [] st19 (bodyEnd E.P (resOf E.P 18)))) (fun v4 μ3 =>
 guardB (below (List.length μ3) v4) (some (.panic v4 μ3))) := by kernel_rfl
theorem nf23 (ρ : Rho) (a : Int) (b : Int) (c : Int) (μ : Mu) : callStep E ρ 23 [LV.int .i64 a, LV.int .i64 b, LV.int .i64 c] μ =
 cond (decide (a < b)) (
 some (.ret (LV.bool false) μ)) (
 some (.ret (LV.bool (!(decide (c < a)))) μ)) := by kernel_rfl
noncomputable def G36_4 (ρ : Rho) (x4 : CV) (x5 : Int) (o0_0 : Int) (o0_1 : Int) (o0_2 : List UInt8) (μ : Mu) : Option St := ρ.seg H36 [(2, 0), (3, 0)] (codeAt E.P 36 [1, 1, 1])
 { fr := mkFr [(2, LV.loc 0 0), (4, LV.cv x4), (5, LV.int .i64 x5)], lam := [Ob.cells [LV.int .i64 o0_0, LV.int .i64 o0_1, LV.str o0_2]], pushed := false } μ
def XG36_4_0 (x3 : Int) (o0_0 : Int) (o0_1 : Int) (o0_2 : List UInt8) (μ : Mu) : St := .ret { fr := mkFr [(2, LV.loc 0 0), (3, LV.int .i64 x3)], lam := [Ob.cells [LV.int .i64 o0_0, LV.int .i64 o0_1, LV.str o0_2]], pushed := false } μ
noncomputable def G36_6 (ρ : Rho) (x4 : CV) (o0_0 : Int) (o0_1 : Int) (o0_2 : List UInt8) (μ : Mu) : Option St := ρ.seg H36 [(2, 0), (3, 0)] (codeAt E.P 36 [1, 1, 1, 1])
 { fr := mkFr [(2, LV.loc 0 0), (4, LV.cv x4)], lam := [Ob.cells [LV.int .i64 o0_0, LV.int .i64 o0_1, LV.str o0_2]], pushed := false } μ
def XG36_6_0 (x3 : Int) (o0_0 : Int) (o0_1 : Int) (o0_2 : List UInt8) (μ : Mu) : St := .ret { fr := mkFr [(2, LV.loc 0 0), (3, LV.int .i64 x3)], lam := [Ob.cells [LV.int .i64 o0_0, LV.int .i64 o0_1, LV.str o0_2]], pushed := false } μ
theorem nfG36_6 (ρ : Rho) (x4 : CV) (o0_0 : Int) (o0_1 : Int) (o0_2 : List UInt8) (μ : Mu) : segK E.P ρ H36 [(2, 0), (3, 0)] (codeAt E.P 36 [1, 1, 1, 1])
 { fr := mkFr [(2, LV.loc 0 0), (4, LV.cv x4)], lam := [Ob.cells [LV.int .i64 o0_0, LV.int .i64 o0_1, LV.str o0_2]], pushed := false } μ =
 opt (isNilA (LV.cv x4)) fun b28 =>
 guardB (!b28) (
 opt (getView (LV.cv (untypeC x4))) fun cs29 =>
 opt (uncons cs29) fun q30 =>
 opt (getStr (LV.cv q30.1)) fun s31 =>
 opt (uncons q30.2) fun q32 =>
 opt (getBool (LV.cv q32.1)) fun b33 =>
 opt (uncons q32.2) fun q34 =>
 opt (getSl (LV.cv q34.1)) fun l35 =>
 opt (uncons q34.2) fun q36 =>
 opt (getSl (LV.cv q36.1)) fun l37 =>
 opt (isNilL q36.2) fun u38 =>
 opt (slAt l35 (0 : Int)) fun c39 =>
 rd23 (LV.cv c39) fun n40 n41 s42 =>
 some (XG36_6_0 (0 : Int) n40 n41 s42 μ)) := by kernel_rfl
theorem nfXG36_6_0 (ρ : Rho) (x3 : Int) (o0_0 : Int) (o0_1 : Int) (o0_2 : List UInt8) (μ : Mu) : runK E.P ρ H36 [] (XG36_6_0 x3 o0_0 o0_1 o0_2 μ) (segEnd H36 [(2, 0), (3, 0)]) =
 some (XG36_4_0 x3 o0_0 o0_1 o0_2 μ) := by kernel_rfl
theorem nfG36_4 (ρ : Rho) (x4 : CV) (x5 : Int) (o0_0 : Int) (o0_1 : Int) (o0_2 : List UInt8) (μ : Mu) : segK E.P ρ H36 [(2, 0), (3, 0)] (codeAt E.P 36 [1, 1, 1])
 { fr := mkFr [(2, LV.loc 0 0), (4, LV.cv x4), (5, LV.int .i64 x5)], lam := [Ob.cells [LV.int .i64 o0_0, LV.int .i64 o0_1, LV.str o0_2]], pushed := false } μ =
 cond (!decide (x5 = (1 : Int))) (
 some (XG36_4_0 (7 : Int) (0 : Int) (0 : Int) ([] : List UInt8) μ)) (
 opt (isNilA (LV.cv x4)) fun b13 =>
 guardB (!b13) (
 opt (getView (LV.cv (untypeC x4))) fun cs14 =>
 opt (uncons cs14) fun q15 =>
 opt (getStr (LV.cv q15.1)) fun s16 =>
 opt (uncons q15.2) fun q17 =>
 opt (getBool (LV.cv q17.1)) fun b18 =>
 opt (uncons q17.2) fun q19 =>
 opt (getSl (LV.cv q19.1)) fun l20 =>
 opt (uncons q19.2) fun q21 =>
 opt (getSl (LV.cv q21.1)) fun l22 =>
 opt (isNilL q21.2) fun u23 =>
 opt (slAt l20 (0 : Int)) fun c24 =>
 rd23 (LV.cv c24) fun n25 n26 s27 =>
 cond (!decide (n25 = (1 : Int))) (
 some (XG36_4_0 (7 : Int) (0 : Int) (0 : Int) ([] : List UInt8) μ)) (
 opt (G36_6 ρ x4 o0_0 o0_1 o0_2 μ) fun st43 => runK E.P ρ H36 [] st43 (segEnd H36 [(2, 0), (3, 0)])))) := by kernel_rfl
theorem nfXG36_4_0 (ρ : Rho) (x3 : Int) (o0_0 : Int) (o0_1 : Int) (o0_2 : List UInt8) (μ : Mu) : runK E.P ρ H36 [] (XG36_4_0 x3 o0_0 o0_1 o0_2 μ) (bodyEnd E.P (resOf E.P 36)) =
 some (.ret (LV.ltup [LV.cv (CV.agg [CV.int .i64 o0_0, CV.int .i64 o0_1, CV.str o0_2]), LV.int .i64 x3]) μ) := by kernel_rfl
theorem nf36 (ρ : Rho) (a : List UInt8) (μ : Mu) : callStep E ρ 36 [LV.str a] μ =
 callK (ρ.call 78 [LV.str a, LV.bool false] μ) (fun v1 μ2 =>
 opt (getTup v1) fun xs5 =>
 opt (uncons xs5) fun q6 =>
 opt (getCv q6.1) fun c7 =>
 opt (uncons q6.2) fun q8 =>
 opt (getInt .i64 q8.1) fun n9 =>
 opt (uncons q8.2) fun q10 =>
 opt (getInt .i64 q10.1) fun n11 =>
 opt (isNilL q10.2) fun u12 =>
 cond (!decide (n11 = (0 : Int))) (
 some (.ret (LV.ltup [LV.cv (CV.agg [CV.int .i64 (0 : Int), CV.int .i64 (0 : Int), CV.str ([] : List UInt8)]), LV.int .i64 n11]) μ2)) (
 opt (G36_4 ρ c7 n9 (0 : Int) (0 : Int) ([] : List UInt8) μ2) fun st44 => runK E.P ρ H36 [] st44 (bodyEnd E.P (resOf E.P 36)))) (fun v4 μ3 =>
 guardB (below (List.length μ3) v4) (some (.panic v4 μ3))) := by kernel_rfl
noncomputable def G37_3 (ρ : Rho) (x0 : List UInt8) (μ : Mu) : Option St := ρ.seg H37 [(2, 0), (3, 0)] (codeAt E.P 37 [1, 1])
 { fr := mkFr [(0, LV.str x0)], lam := [], pushed := false } μ
def XG37_3_0 (x2 : List UInt8) (x3 : Int) (μ : Mu) : St := .ret { fr := mkFr [(2, LV.str x2), (3, LV.int .i64 x3)], lam := [], pushed := false } μ
def XG37_3_1 (pv : CV) (μ : Mu) : St := .panic pv { fr := mkFr [], lam := [], pushed := false } μ
theorem nfG37_3 (ρ : Rho) (x0 : List UInt8) (μ : Mu) : segK E.P ρ H37 [(2, 0), (3, 0)] (codeAt E.P 37 [1, 1])
 { fr := mkFr [(0, LV.str x0)], lam := [], pushed := false } μ =
 opt (cutA x0 (1 : Int) (IntKind.wrap .i64 ((List.length x0 : Int) - (1 : Int)))) fun s6 =>
 callK (ρ.call 84 [LV.str s6, LV.str ([39, 39] : List UInt8), LV.str ([39] : List UInt8)] μ) (fun v7 μ8 =>
 opt (getStr v7) fun s11 =>
 some (XG37_3_0 s11 (0 : Int) μ8)) (fun v10 μ9 =>
 some (XG37_3_1 v10 μ9)) := by kernel_rfl
theorem nfXG37_3_0 (ρ : Rho) (x2 : List UInt8) (x3 : Int) (μ : Mu) : runK E.P ρ H37 [] (XG37_3_0 x2 x3 μ) (bodyEnd E.P (resOf E.P 37)) =
 some (.ret (LV.ltup [LV.str x2, LV.int .i64 x3]) μ) := by kernel_rfl
theorem nf37 (ρ : Rho) (a : List UInt8) (μ : Mu) : callStep E ρ 37 [LV.str a] μ =
 callK (ρ.call 12 [LV.int .i64 (6 : Int), LV.str a] μ) (fun v1 μ2 =>
 opt (getInt .i64 v1) fun n5 =>
 cond (!decide (n5 = (0 : Int))) (
 some (.ret (LV.ltup [LV.str ([] : List UInt8), LV.int .i64 (3 : Int)]) μ2)) (
 opt (G37_3 ρ a μ2) fun st12 => runK E.P ρ H37 [] st12 (bodyEnd E.P (resOf E.P 37)))) (fun v4 μ3 =>
 guardB (below (List.length μ3) v4) (some (.panic v4 μ3))) := by kernel_rfl
theorem nf38 (ρ : Rho) (a : List UInt8) (μ : Mu) : callStep E ρ 38 [LV.str a] μ =
 cond (decide ((60 : Int) < (List.length a : Int))) (
 some (.ret (LV.ltup [LV.str ([] : List UInt8), LV.int .i64 (8 : Int)]) μ)) (
 callK (ρ.call 85 [LV.str a] μ) (fun v1 μ2 =>
 opt (getBool v1) fun b5 =>
 cond (!b5) (
 some (.ret (LV.ltup [LV.str ([] : List UInt8), LV.int .i64 (3 : Int)]) μ2)) (
 callK (ρ.call 86 [LV.str a] μ2) (fun v6 μ7 =>
 rd23 v6 fun n10 n11 s12 =>
 some (.ret (LV.ltup [LV.str s12, LV.int .i64 (0 : Int)]) μ7)) (fun v9 μ8 =>
 guardB (below (List.length μ8) v9) (some (.panic v9 μ8))))) (fun v4 μ3 =>
 guardB (below (List.length μ3) v4) (some (.panic v4 μ3)))) := by kernel_rfl
noncomputable def G39_4 (ρ : Rho) (x4 : List CV) (o0_0 : Int) (o0_1 : Int) (o0_2 : List UInt8) (μ : Mu) : Option St := ρ.seg H39 [(2, 0), (3, 0)] (codeAt E.P 39 [1, 1, 1])
 { fr := mkFr [(2, LV.loc 0 0), (4, LV.cv (CV.sl x4))], lam := [Ob.cells [LV.int .i64 o0_0, LV.int .i64 o0_1, LV.str o0_2]], pushed := false } μ
def XG39_4_0 (x3 : Int) (o0_0 : Int) (o0_1 : Int) (o0_2 : List UInt8) (μ : Mu) : St := .ret { fr := mkFr [(2, LV.loc 0 0), (3, LV.int .i64 x3)], lam := [Ob.cells [LV.int .i64 o0_0, LV.int .i64 o0_1, LV.str o0_2]], pushed := false } μ
theorem nfG39_4 (ρ : Rho) (x4 : List CV) (o0_0 : Int) (o0_1 : Int) (o0_2 : List UInt8) (μ : Mu) : segK E.P ρ H39 [(2, 0), (3, 0)] (codeAt E.P 39 [1, 1, 1])
 { fr := mkFr [(2, LV.loc 0 0), (4, LV.cv (CV.sl x4))], lam := [Ob.cells [LV.int .i64 o0_0, LV.int .i64 o0_1, LV.str o0_2]], pushed := false } μ =
 cond (!decide ((List.length x4 : Int) = (1 : Int))) (
 some (XG39_4_0 (7 : Int) (0 : Int) (0 : Int) ([] : List UInt8) μ)) (
 opt (slAt x4 (0 : Int)) fun c13 =>
 rd23 (LV.cv c13) fun n14 n15 s16 =>
 cond (!decide (n14 = (1 : Int))) (
 some (XG39_4_0 (7 : Int) (0 : Int) (0 : Int) ([] : List UInt8) μ)) (
 opt (slAt x4 (0 : Int)) fun c17 =>
 rd23 (LV.cv c17) fun n18 n19 s20 =>
 some (XG39_4_0 (0 : Int) n18 n19 s20 μ))) := by kernel_rfl
theorem nfXG39_4_0 (ρ : Rho) (x3 : Int) (o0_0 : Int) (o0_1 : Int) (o0_2 : List UInt8) (μ : Mu) : runK E.P ρ H39 [] (XG39_4_0 x3 o0_0 o0_1 o0_2 μ) (bodyEnd E.P (resOf E.P 39)) =
 some (.ret (LV.ltup [LV.cv (CV.agg [CV.int .i64 o0_0, CV.int .i64 o0_1, CV.str o0_2]), LV.int .i64 x3]) μ) := by kernel_rfl
theorem nf39 (ρ : Rho) (a : List UInt8) (μ : Mu) : callStep E ρ 39 [LV.str a] μ =
 callK (ρ.call 18 [LV.str a] μ) (fun v1 μ2 =>
 opt (getTup v1) fun xs5 =>
 opt (uncons xs5) fun q6 =>
 opt (getSl q6.1) fun l7 =>
 opt (uncons q6.2) fun q8 =>
 opt (getInt .i64 q8.1) fun n9 =>
 opt (uncons q8.2) fun q10 =>
 opt (getInt .i64 q10.1) fun n11 =>
 opt (isNilL q10.2) fun u12 =>
 cond (!decide (n11 = (0 : Int))) (
 some (.ret (LV.ltup [LV.cv (CV.agg [CV.int .i64 (0 : Int), CV.int .i64 (0 : Int), CV.str ([] : List UInt8)]), LV.int .i64 n11]) μ2)) (
 opt (G39_4 ρ l7 (0 : Int) (0 : Int) ([] : List UInt8) μ2) fun st21 => runK E.P ρ H39 [] st21 (bodyEnd E.P (resOf E.P 39)))) (fun v4 μ3 =>
 guardB (below (List.length μ3) v4) (some (.panic v4 μ3))) := by kernel_rfl
noncomputable def G40_3 (ρ : Rho) (x0 : List UInt8) (μ : Mu) : Option St := ρ.seg H40 [(2, 0), (3, 0)] (codeAt E.P 40 [1, 1])
 { fr := mkFr [(0, LV.str x0)], lam := [], pushed := false } μ
noncomputable def L40_5 (ρ : Rho) (x0 : List UInt8) (x4 : List UInt8) (x5 : Int) (μ : Mu) : Option St := ρ.loop H40 [(4, 0)] (codeAt E.P 40 [1, 1, 1, 0, 1, 0, 0])
 { fr := mkFr [(0, LV.str x0), (4, LV.str x4), (5, LV.int .i64 x5)], lam := [], pushed := false } μ
def XL40_5_0 (x4 : List UInt8) (μ : Mu) : St := .exit 0 { fr := mkFr [(4, LV.str x4)], lam := [], pushed := false } μ
def XG40_3_0 (x2 : List UInt8) (x3 : Bool) (μ : Mu) : St := .ret { fr := mkFr [(2, LV.str x2), (3, LV.bool x3)], lam := [], pushed := false } μ
theorem nfL40_5 (ρ : Rho) (x0 : List UInt8) (x4 : List UInt8) (x5 : Int) (μ : Mu) : roundK E.P ρ H40 [(4, 0)] (codeAt E.P 40 [1, 1, 1, 0, 1, 0, 0])
 { fr := mkFr [(0, LV.str x0), (4, LV.str x4), (5, LV.int .i64 x5)], lam := [], pushed := false } μ =
 cond (decide (x5 < IntKind.wrap .i64 ((List.length x0 : Int) - (1 : Int)))) (
 opt (cutA x0 x5 (IntKind.wrap .i64 (x5 + (1 : Int)))) fun s6 =>
 guardB (small (List.length x4 + List.length s6)) (
 opt (strAt x0 x5) fun y7 =>
 cond (decide ((y7.toNat : Int) = (39 : Int))) (
 L40_5 ρ x0 (x4 ++ s6) (IntKind.wrap .i64 (IntKind.wrap .i64 (x5 + (1 : Int)) + (1 : Int))) μ) (
 L40_5 ρ x0 (x4 ++ s6) (IntKind.wrap .i64 (x5 + (1 : Int))) μ))) (
 some (XL40_5_0 x4 μ)) := by kernel_rfl
theorem nfXL40_5_0 (ρ : Rho) (x4 : List UInt8) (μ : Mu) : runK E.P ρ H40 [.block 0, .seq (codeAt E.P 40 [1, 1, 1, 1])] (XL40_5_0 x4 μ) (segEnd H40 [(2, 0), (3, 0)]) =
 some (XG40_3_0 x4 true μ) := by kernel_rfl
theorem nfG40_3 (ρ : Rho) (x0 : List UInt8) (μ : Mu) : segK E.P ρ H40 [(2, 0), (3, 0)] (codeAt E.P 40 [1, 1])
 { fr := mkFr [(0, LV.str x0)], lam := [], pushed := false } μ =
 opt (L40_5 ρ x0 ([] : List UInt8) (1 : Int) μ) fun st8 => runK E.P ρ H40 [.block 0, .seq (codeAt E.P 40 [1, 1, 1, 1])] st8 (segEnd H40 [(2, 0), (3, 0)]) := by kernel_rfl
theorem nfXG40_3_0 (ρ : Rho) (x2 : List UInt8) (x3 : Bool) (μ : Mu) : runK E.P ρ H40 [] (XG40_3_0 x2 x3 μ) (bodyEnd E.P (resOf E.P 40)) =
 some (.ret (LV.ltup [LV.str x2, LV.bool x3]) μ) := by kernel_rfl
theorem nf40 (ρ : Rho) (a : List UInt8) (μ : Mu) : callStep E ρ 40 [LV.str a] μ =
 callK (ρ.call 13 [LV.int .i64 (6 : Int), LV.str a] μ) (fun v1 μ2 =>
 opt (getInt .i64 v1) fun n5 =>
 cond (!decide (n5 = (0 : Int))) (
 some (.ret (LV.ltup [LV.str ([] : List UInt8), LV.bool false]) μ2)) (
 opt (G40_3 ρ a μ2) fun st9 => runK E.P ρ H40 [] st9 (bodyEnd E.P (resOf E.P 40)))) (fun v4 μ3 =>
 guardB (below (List.length μ3) v4) (some (.panic v4 μ3))) := by kernel_rfl
noncomputable def G41_3 (ρ : Rho) (x0 : List UInt8) (μ : Mu) : Option St := ρ.seg H41 [(4, 0)] (codeAt E.P 41 [1, 1])
 { fr := mkFr [(0, LV.str x0)], lam := [], pushed := false } μ
noncomputable def L41_4 (ρ : Rho) (x0 : List UInt8) (x5 : Int) (μ : Mu) : Option St := ρ.loop H41 [] (codeAt E.P 41 [1, 1, 0, 1, 0, 0])
 { fr := mkFr [(0, LV.str x0), (5, LV.int .i64 x5)], lam := [], pushed := false } μ
def XL41_4_0 (x4 : Bool) (μ : Mu) : St := .ret { fr := mkFr [(4, LV.bool x4)], lam := [], pushed := false } μ
def XL41_4_1 (pv : CV) (μ : Mu) : St := .panic pv { fr := mkFr [], lam := [], pushed := false } μ
def XL41_4_2 (μ : Mu) : St := .exit 0 { fr := mkFr [], lam := [], pushed := false } μ
def XG41_3_0 (x4 : Bool) (μ : Mu) : St := .ret { fr := mkFr [(4, LV.bool x4)], lam := [], pushed := false } μ
theorem nfL41_4 (ρ : Rho) (x0 : List UInt8) (x5 : Int) (μ : Mu) : roundK E.P ρ H41 [] (codeAt E.P 41 [1, 1, 0, 1, 0, 0])
 { fr := mkFr [(0, LV.str x0), (5, LV.int .i64 x5)], lam := [], pushed := false } μ =
 cond (decide (x5 < (List.length x0 : Int))) (
 opt (strAt x0 x5) fun y1 =>
 callK (ρ.call 23 [LV.int .i64 (IntKind.wrap .i64 (y1.toNat : Int)), LV.int .i64 (32 : Int), LV.int .i64 (126 : Int)] μ) (fun v2 μ3 =>
 opt (getBool v2) fun b6 =>
 cond (!b6) (
 some (XL41_4_0 false μ3)) (
 L41_4 ρ x0 (IntKind.wrap .i64 (x5 + (1 : Int))) μ3)) (fun v5 μ4 =>
 some (XL41_4_1 v5 μ4))) (
 some (XL41_4_2 μ)) := by kernel_rfl
theorem nfXL41_4_0 (ρ : Rho) (x4 : Bool) (μ : Mu) : runK E.P ρ H41 [.block 0, .seq (codeAt E.P 41 [1, 1, 1])] (XL41_4_0 x4 μ) (segEnd H41 [(4, 0)]) =
 some (XG41_3_0 x4 μ) := by kernel_rfl
theorem nfXL41_4_2 (ρ : Rho) (μ : Mu) : runK E.P ρ H41 [.block 0, .seq (codeAt E.P 41 [1, 1, 1])] (XL41_4_2 μ) (segEnd H41 [(4, 0)]) =
 some (XG41_3_0 true μ) := by kernel_rfl
theorem nfG41_3 (ρ : Rho) (x0 : List UInt8) (μ : Mu) : segK E.P ρ H41 [(4, 0)] (codeAt E.P 41 [1, 1])
 { fr := mkFr [(0, LV.str x0)], lam := [], pushed := false } μ =
 opt (L41_4 ρ x0 (0 : Int) μ) fun st7 => runK E.P ρ H41 [.block 0, .seq (codeAt E.P 41 [1, 1, 1])] st7 (segEnd H41 [(4, 0)]) := by kernel_rfl
theorem nfXG41_3_0 (ρ : Rho) (x4 : Bool) (μ : Mu) : runK E.P ρ H41 [] (XG41_3_0 x4 μ) (bodyEnd E.P (resOf E.P 41)) =
 some (.ret (LV.bool x4) μ) := by kernel_rfl
theorem nf41 (ρ : Rho) (a : List UInt8) (b : Int) (μ : Mu) : callStep E ρ 41 [LV.str a, LV.int .i64 b] μ =
 cond (decide (b < (List.length a : Int))) (
 some (.ret (LV.bool false) μ)) (
 opt (G41_3 ρ a μ) fun st8 => runK E.P ρ H41 [] st8 (bodyEnd E.P (resOf E.P 41))) := by kernel_rfl
noncomputable def L42_3 (ρ : Rho) (x0 : List UInt8) (x3 : List UInt8) (x4 : Int) (μ : Mu) : Option St := ρ.loop H42 [(3, 0)] (codeAt E.P 42 [1, 1, 0, 1, 0, 0])
 { fr := mkFr [(0, LV.str x0), (3, LV.str x3), (4, LV.int .i64 x4)], lam := [], pushed := false } μ
def XL42_3_0 (x3 : List UInt8) (μ : Mu) : St := .exit 0 { fr := mkFr [(3, LV.str x3)], lam := [], pushed := false } μ
theorem nfL42_3 (ρ : Rho) (x0 : List UInt8) (x3 : List UInt8) (x4 : Int) (μ : Mu) : roundK E.P ρ H42 [(3, 0)] (codeAt E.P 42 [1, 1, 0, 1, 0, 0])
 { fr := mkFr [(0, LV.str x0), (3, LV.str x3), (4, LV.int .i64 x4)], lam := [], pushed := false } μ =
 cond (decide (x4 < (List.length x0 : Int))) (
 opt (cutA x0 x4 (IntKind.wrap .i64 (x4 + (1 : Int)))) fun s1 =>
 guardB (small (List.length x3 + List.length s1)) (
 opt (strAt x0 x4) fun y2 =>
 cond (decide ((y2.toNat : Int) = (39 : Int))) (
 guardB (small (List.length (x3 ++ s1) + List.length ([39] : List UInt8))) (
 L42_3 ρ x0 ((x3 ++ s1) ++ ([39] : List UInt8)) (IntKind.wrap .i64 (x4 + (1 : Int))) μ)) (
 L42_3 ρ x0 (x3 ++ s1) (IntKind.wrap .i64 (x4 + (1 : Int))) μ))) (
 some (XL42_3_0 x3 μ)) := by kernel_rfl
theorem nfXL42_3_0 (ρ : Rho) (x3 : List UInt8) (μ : Mu) : runK E.P ρ H42 [.block 0, .seq (codeAt E.P 42 [1, 1, 1])] (XL42_3_0 x3 μ) (bodyEnd E.P (resOf E.P 42)) =
 guardB (small (List.length x3 + List.length ([39] : List UInt8))) (
 some (.ret (LV.str (x3 ++ ([39] : List UInt8))) μ)) := by kernel_rfl
theorem nf42 (ρ : Rho) (a : List UInt8) (μ : Mu) : callStep E ρ 42 [LV.str a] μ =
 opt (L42_3 ρ a ([39] : List UInt8) (0 : Int) μ) fun st3 => runK E.P ρ H42 [.block 0, .seq (codeAt E.P 42 [1, 1, 1])] st3 (bodyEnd E.P (resOf E.P 42)) := by kernel_rfl
noncomputable def G46_4 (ρ : Rho) (x4 : CV) (o0_0 : Int) (o0_1 : Int) (o0_2 : List UInt8) (μ : Mu) : Option St := ρ.seg H46 [(2, 0), (3, 0)] (codeAt E.P 46 [1, 1, 1])
 { fr := mkFr [(2, LV.loc 0 0), (4, LV.cv x4)], lam := [Ob.cells [LV.int .i64 o0_0, LV.int .i64 o0_1, LV.str o0_2]], pushed := false } μ
def XG46_4_0 (x3 : Bool) (o0_0 : Int) (o0_1 : Int) (o0_2 : List UInt8) (μ : Mu) : St := .ret { fr := mkFr [(2, LV.loc 0 0), (3, LV.bool x3)], lam := [Ob.cells [LV.int .i64 o0_0, LV.int .i64 o0_1, LV.str o0_2]], pushed := false } μ
theorem nfG46_4 (ρ : Rho) (x4 : CV) (o0_0 : Int) (o0_1 : Int) (o0_2 : List UInt8) (μ : Mu) : segK E.P ρ H46 [(2, 0), (3, 0)] (codeAt E.P 46 [1, 1, 1])
 { fr := mkFr [(2, LV.loc 0 0), (4, LV.cv x4)], lam := [Ob.cells [LV.int .i64 o0_0, LV.int .i64 o0_1, LV.str o0_2]], pushed := false } μ =
 opt (isNilA (LV.cv x4)) fun b13 =>
 guardB (!b13) (
 opt (getView (LV.cv (untypeC x4))) fun cs14 =>
 opt (uncons cs14) fun q15 =>
 opt (getStr (LV.cv q15.1)) fun s16 =>
 opt (uncons q15.2) fun q17 =>
 opt (getBool (LV.cv q17.1)) fun b18 =>
 opt (uncons q17.2) fun q19 =>
 opt (getSl (LV.cv q19.1)) fun l20 =>
 opt (uncons q19.2) fun q21 =>
 opt (getSl (LV.cv q21.1)) fun l22 =>
 opt (isNilL q21.2) fun u23 =>
 opt (slAt l20 (0 : Int)) fun c24 =>
 rd23 (LV.cv c24) fun n25 n26 s27 =>
 some (XG46_4_0 true n25 n26 s27 μ)) := by kernel_rfl
theorem nfXG46_4_0 (ρ : Rho) (x3 : Bool) (o0_0 : Int) (o0_1 : Int) (o0_2 : List UInt8) (μ : Mu) : runK E.P ρ H46 [] (XG46_4_0 x3 o0_0 o0_1 o0_2 μ) (bodyEnd E.P (resOf E.P 46)) =
 some (.ret (LV.ltup [LV.cv (CV.agg [CV.int .i64 o0_0, CV.int .i64 o0_1, CV.str o0_2]), LV.bool x3]) μ) := by kernel_rfl
theorem nf46 (ρ : Rho) (a : List UInt8) (μ : Mu) : callStep E ρ 46 [LV.str a] μ =
 callK (ρ.call 78 [LV.str a, LV.bool false] μ) (fun v1 μ2 =>
 opt (getTup v1) fun xs5 =>
 opt (uncons xs5) fun q6 =>
 opt (getCv q6.1) fun c7 =>
 opt (uncons q6.2) fun q8 =>
 opt (getInt .i64 q8.1) fun n9 =>
 opt (uncons q8.2) fun q10 =>
 opt (getInt .i64 q10.1) fun n11 =>
 opt (isNilL q10.2) fun u12 =>
 cond (!decide (n11 = (0 : Int))) (
 some (.ret (LV.ltup [LV.cv (CV.agg [CV.int .i64 (0 : Int), CV.int .i64 (0 : Int), CV.str ([] : List UInt8)]), LV.bool false]) μ2)) (
 cond (!decide (n9 = (1 : Int))) (
 some (.ret (LV.ltup [LV.cv (CV.agg [CV.int .i64 (0 : Int), CV.int .i64 (0 : Int), CV.str ([] : List UInt8)]), LV.bool false]) μ2)) (
 opt (G46_4 ρ c7 (0 : Int) (0 : Int) ([] : List UInt8) μ2) fun st28 => runK E.P ρ H46 [] st28 (bodyEnd E.P (resOf E.P 46))))) (fun v4 μ3 =>
 guardB (below (List.length μ3) v4) (some (.panic v4 μ3))) := by kernel_rfl
noncomputable def L47_2 (ρ : Rho) (x0 : List UInt8) (x1 : Int) (x5 : Int) (μ : Mu) : Option St := ρ.loop H47 [(5, 0)] (codeAt E.P 47 [1, 1, 0, 0, 0])
 { fr := mkFr [(0, LV.str x0), (1, LV.int .i64 x1), (5, LV.int .i64 x5)], lam := [], pushed := false } μ
def XL47_2_0 (x5 : Int) (μ : Mu) : St := .exit 0 { fr := mkFr [(5, LV.int .i64 x5)], lam := [], pushed := false } μ
def XL47_2_1 (pv : CV) (μ : Mu) : St := .panic pv { fr := mkFr [], lam := [], pushed := false } μ
theorem nfL47_2 (ρ : Rho) (x0 : List UInt8) (x1 : Int) (x5 : Int) (μ : Mu) : roundK E.P ρ H47 [(5, 0)] (codeAt E.P 47 [1, 1, 0, 0, 0])
 { fr := mkFr [(0, LV.str x0), (1, LV.int .i64 x1), (5, LV.int .i64 x5)], lam := [], pushed := false } μ =
 cond (decide (IntKind.wrap .i64 (x1 + x5) < (List.length x0 : Int))) (
 opt (strAt x0 (IntKind.wrap .i64 (x1 + x5))) fun y1 =>
 callK (ρ.call 67 [LV.int .u8 (y1.toNat : Int)] μ) (fun v2 μ3 =>
 opt (getBool v2) fun b6 =>
 cond (b6) (
 L47_2 ρ x0 x1 (IntKind.wrap .i64 (x5 + (1 : Int))) μ3) (
 some (XL47_2_0 x5 μ3))) (fun v5 μ4 =>
 some (XL47_2_1 v5 μ4))) (
 some (XL47_2_0 x5 μ)) := by kernel_rfl
theorem nfXL47_2_0 (ρ : Rho) (x5 : Int) (μ : Mu) : runK E.P ρ H47 [.block 0, .seq (codeAt E.P 47 [1, 1, 1])] (XL47_2_0 x5 μ) (bodyEnd E.P (resOf E.P 47)) =
 some (.ret (LV.int .i64 x5) μ) := by kernel_rfl
theorem nf47 (ρ : Rho) (a : List UInt8) (b : Int) (μ : Mu) : callStep E ρ 47 [LV.str a, LV.int .i64 b] μ =
 opt (L47_2 ρ a b (0 : Int) μ) fun st7 => runK E.P ρ H47 [.block 0, .seq (codeAt E.P 47 [1, 1, 1])] st7 (bodyEnd E.P (resOf E.P 47)) := by kernel_rfl
theorem nf48 (ρ : Rho) (a : List UInt8) (μ : Mu) : callStep E ρ 48 [LV.str a] μ =
 cond (decide ((1320 : Int) < (List.length a : Int))) (
 some (.ret (LV.int .i64 (8 : Int)) μ)) (
 callK (ρ.call 41 [LV.str a, LV.int .i64 (1320 : Int)] μ) (fun v1 μ2 =>
 opt (getBool v1) fun b5 =>
 cond (!b5) (
 some (.ret (LV.int .i64 (3 : Int)) μ2)) (
 some (.ret (LV.int .i64 (0 : Int)) μ2))) (fun v4 μ3 =>
 guardB (below (List.length μ3) v4) (some (.panic v4 μ3)))) := by kernel_rfl
theorem nf50 (ρ : Rho) (a : List CV) (b : List UInt8) (μ : Mu) : callStep E ρ 50 [LV.cv (CV.sl a), LV.str b] μ =
 callK (ρ.call 94 [LV.cv (CV.sl a), LV.str b] μ) (fun v1 μ2 =>
 opt (getInt .i64 v1) fun n5 =>
 some (.ret (LV.bool (decide ((0 : Int) ≤ n5))) μ2)) (fun v4 μ3 =>
 guardB (below (List.length μ3) v4) (some (.panic v4 μ3))) := by kernel_rfl
theorem nf51 (ρ : Rho) (μ : Mu) : callStep E ρ 51 [] μ =
 some (.ret (LV.osl [CV.str ([46, 76, 84, 46] : List UInt8), CV.str ([46, 76, 69, 46] : List UInt8), CV.str ([46, 69, 81, 46] : List UInt8), CV.str ([46, 78, 69, 46] : List UInt8), CV.str ([46, 71, 69, 46] : List UInt8), CV.str ([46, 71, 84, 46] : List UInt8), CV.str ([46, 78, 79, 84, 46] : List UInt8), CV.str ([46, 65, 78, 68, 46] : List UInt8), CV.str ([46, 79, 82, 46] : List UInt8), CV.str ([46, 69, 81, 86, 46] : List UInt8), CV.str ([46, 78, 69, 81, 86, 46] : List UInt8)]) μ) := by kernel_rfl
theorem nf52 (ρ : Rho) (μ : Mu) : callStep E ρ 52 [] μ =
 some (.ret (LV.osl [CV.str ([42, 42] : List UInt8), CV.str ([47, 47] : List UInt8), CV.str ([61, 62] : List UInt8), CV.str ([42] : List UInt8), CV.str ([47] : List UInt8), CV.str ([43] : List UInt8), CV.str ([45] : List UInt8), CV.str ([40] : List UInt8), CV.str ([41] : List UInt8), CV.str ([44] : List UInt8), CV.str ([58] : List UInt8), CV.str ([61] : List UInt8), CV.str ([37] : List UInt8)]) μ) := by kernel_rfl
theorem nf55 (ρ : Rho) (μ : Mu) : callStep E ρ 55 [] μ =
 some (.ret (LV.osl [CV.str ([46, 76, 84, 46] : List UInt8), CV.str ([46, 76, 69, 46] : List UInt8), CV.str ([46, 69, 81, 46] : List UInt8), CV.str ([46, 78, 69, 46] : List UInt8), CV.str ([46, 71, 69, 46] : List UInt8), CV.str ([46, 71, 84, 46] : List UInt8), CV.str ([46, 78, 79, 84, 46] : List UInt8), CV.str ([46, 65, 78, 68, 46] : List UInt8), CV.str ([46, 79, 82, 46] : List UInt8), CV.str ([46, 69, 81, 86, 46] : List UInt8), CV.str ([46, 78, 69, 81, 86, 46] : List UInt8)]) μ) := by kernel_rfl
theorem nf56 (ρ : Rho) (μ : Mu) : callStep E ρ 56 [] μ =
 some (.ret (LV.osl [CV.str ([42, 42] : List UInt8), CV.str ([47, 47] : List UInt8), CV.str ([61, 62] : List UInt8), CV.str ([42] : List UInt8), CV.str ([47] : List UInt8), CV.str ([43] : List UInt8), CV.str ([45] : List UInt8), CV.str ([40] : List UInt8), CV.str ([41] : List UInt8), CV.str ([44] : List UInt8), CV.str ([58] : List UInt8), CV.str ([61] : List UInt8), CV.str ([37] : List UInt8)]) μ) := by kernel_rfl
noncomputable def L58_4 (ρ : Rho) (x0 : List UInt8) (x1 : Int) (x6 : Int) (o0_0 : Int) (o0_1 : Int) (o0_2 : List UInt8) (o0_3 : Int) (o0_4 : Int) (μ : Mu) : Option St := ρ.loop H58 [(0, 0), (1, 0), (4, 0), (6, 0)] (codeAt E.P 58 [1, 1, 0, 0, 1, 0, 1, 0, 0, 0])
 { fr := mkFr [(0, LV.str x0), (1, LV.int .i64 x1), (4, LV.loc 0 0), (6, LV.int .i64 x6)], lam := [Ob.cells [LV.int .i64 o0_0, LV.int .i64 o0_1, LV.str o0_2, LV.int .i64 o0_3, LV.int .i64 o0_4]], pushed := false } μ
def XL58_4_0 (x0 : List UInt8) (x1 : Int) (x6 : Int) (o0_0 : Int) (o0_1 : Int) (o0_2 : List UInt8) (o0_3 : Int) (o0_4 : Int) (μ : Mu) : St := .exit 1 { fr := mkFr [(0, LV.str x0), (1, LV.int .i64 x1), (4, LV.loc 0 0), (6, LV.int .i64 x6)], lam := [Ob.cells [LV.int .i64 o0_0, LV.int .i64 o0_1, LV.str o0_2, LV.int .i64 o0_3, LV.int .i64 o0_4]], pushed := false } μ
def XL58_4_1 (pv : CV) (μ : Mu) : St := .panic pv { fr := mkFr [], lam := [], pushed := false } μ
noncomputable def G58_8 (ρ : Rho) (x0 : List UInt8) (x1 : Int) (x6 : Int) (o0_0 : Int) (o0_1 : Int) (o0_2 : List UInt8) (o0_3 : Int) (o0_4 : Int) (μ : Mu) : Option St := ρ.seg H58 [(0, 0), (1, 0), (4, 0)] (codeAt E.P 58 [1, 1, 0, 0, 1, 0, 1, 1, 1])
 { fr := mkFr [(0, LV.str x0), (1, LV.int .i64 x1), (4, LV.loc 0 0), (6, LV.int .i64 x6)], lam := [Ob.cells [LV.int .i64 o0_0, LV.int .i64 o0_1, LV.str o0_2, LV.int .i64 o0_3, LV.int .i64 o0_4]], pushed := false } μ
def XG58_8_0 (o0_0 : Int) (o0_1 : Int) (o0_2 : List UInt8) (o0_3 : Int) (o0_4 : Int) (μ : Mu) : St := .ret { fr := mkFr [(4, LV.loc 0 0)], lam := [Ob.cells [LV.int .i64 o0_0, LV.int .i64 o0_1, LV.str o0_2, LV.int .i64 o0_3, LV.int .i64 o0_4]], pushed := false } μ
def XG58_8_1 (pv : CV) (μ : Mu) : St := .panic pv { fr := mkFr [], lam := [], pushed := false } μ
noncomputable def G58_11 (ρ : Rho) (x0 : List UInt8) (x1 : Int) (x5 : Int) (x60 : Bool) (o0_0 : Int) (o0_1 : Int) (o0_2 : List UInt8) (o0_3 : Int) (o0_4 : Int) (μ : Mu) : Option St := ρ.seg H58 [(0, 0), (1, 0), (4, 0)] (codeAt E.P 58 [1, 1, 0, 0, 1, 1, 1])
 { fr := mkFr [(0, LV.str x0), (1, LV.int .i64 x1), (4, LV.loc 0 0), (5, LV.int .u8 x5), (60, LV.bool x60)], lam := [Ob.cells [LV.int .i64 o0_0, LV.int .i64 o0_1, LV.str o0_2, LV.int .i64 o0_3, LV.int .i64 o0_4]], pushed := false } μ
def XG58_11_0 (o0_0 : Int) (o0_1 : Int) (o0_2 : List UInt8) (o0_3 : Int) (o0_4 : Int) (μ : Mu) : St := .ret { fr := mkFr [(4, LV.loc 0 0)], lam := [Ob.cells [LV.int .i64 o0_0, LV.int .i64 o0_1, LV.str o0_2, LV.int .i64 o0_3, LV.int .i64 o0_4]], pushed := false } μ
def XG58_11_1 (pv : CV) (μ : Mu) : St := .panic pv { fr := mkFr [], lam := [], pushed := false } μ
noncomputable def L58_14 (ρ : Rho) (x0 : List UInt8) (x1 : Int) (x85 : List CV) (x86 : Int) (x87 : Int) (o0_0 : Int) (o0_1 : Int) (o0_2 : List UInt8) (o0_3 : Int) (o0_4 : Int) (μ : Mu) : Option St := ρ.loop H58 [(0, 0), (1, 0), (4, 0)] (codeAt E.P 58 [1, 1, 0, 0, 1, 1, 1, 1, 1, 0, 0, 1, 0, 0])
 { fr := mkFr [(0, LV.str x0), (1, LV.int .i64 x1), (4, LV.loc 0 0), (85, LV.cv (CV.sl x85)), (86, LV.int .i64 x86), (87, LV.int .i64 x87)], lam := [Ob.cells [LV.int .i64 o0_0, LV.int .i64 o0_1, LV.str o0_2, LV.int .i64 o0_3, LV.int .i64 o0_4]], pushed := false } μ
def XL58_14_0 (o0_0 : Int) (o0_1 : Int) (o0_2 : List UInt8) (o0_3 : Int) (o0_4 : Int) (μ : Mu) : St := .ret { fr := mkFr [(4, LV.loc 0 0)], lam := [Ob.cells [LV.int .i64 o0_0, LV.int .i64 o0_1, LV.str o0_2, LV.int .i64 o0_3, LV.int .i64 o0_4]], pushed := false } μ
def XL58_14_1 (pv : CV) (μ : Mu) : St := .panic pv { fr := mkFr [], lam := [], pushed := false } μ
def XL58_14_2 (x0 : List UInt8) (x1 : Int) (o0_0 : Int) (o0_1 : Int) (o0_2 : List UInt8) (o0_3 : Int) (o0_4 : Int) (μ : Mu) : St := .exit 3 { fr := mkFr [(0, LV.str x0), (1, LV.int .i64 x1), (4, LV.loc 0 0)], lam := [Ob.cells [LV.int .i64 o0_0, LV.int .i64 o0_1, LV.str o0_2, LV.int .i64 o0_3, LV.int .i64 o0_4]], pushed := false } μ
noncomputable def L58_20 (ρ : Rho) (x0 : List UInt8) (x1 : Int) (x103 : List CV) (x104 : Int) (x105 : Int) (o0_0 : Int) (o0_1 : Int) (o0_2 : List UInt8) (o0_3 : Int) (o0_4 : Int) (μ : Mu) : Option St := ρ.loop H58 [(4, 0)] (codeAt E.P 58 [1, 1, 0, 0, 1, 1, 1, 1, 1, 0, 1, 0, 1, 0, 0])
 { fr := mkFr [(0, LV.str x0), (1, LV.int .i64 x1), (4, LV.loc 0 0), (103, LV.cv (CV.sl x103)), (104, LV.int .i64 x104), (105, LV.int .i64 x105)], lam := [Ob.cells [LV.int .i64 o0_0, LV.int .i64 o0_1, LV.str o0_2, LV.int .i64 o0_3, LV.int .i64 o0_4]], pushed := false } μ
def XL58_20_0 (o0_0 : Int) (o0_1 : Int) (o0_2 : List UInt8) (o0_3 : Int) (o0_4 : Int) (μ : Mu) : St := .ret { fr := mkFr [(4, LV.loc 0 0)], lam := [Ob.cells [LV.int .i64 o0_0, LV.int .i64 o0_1, LV.str o0_2, LV.int .i64 o0_3, LV.int .i64 o0_4]], pushed := false } μ
def XL58_20_1 (pv : CV) (μ : Mu) : St := .panic pv { fr := mkFr [], lam := [], pushed := false } μ
def XL58_20_2 (o0_0 : Int) (o0_1 : Int) (o0_2 : List UInt8) (o0_3 : Int) (o0_4 : Int) (μ : Mu) : St := .exit 5 { fr := mkFr [(4, LV.loc 0 0)], lam := [Ob.cells [LV.int .i64 o0_0, LV.int .i64 o0_1, LV.str o0_2, LV.int .i64 o0_3, LV.int .i64 o0_4]], pushed := false } μ
def XG58_11_2 (x0 : List UInt8) (x1 : Int) (o0_0 : Int) (o0_1 : Int) (o0_2 : List UInt8) (o0_3 : Int) (o0_4 : Int) (μ : Mu) : St := .norm { fr := mkFr [(0, LV.str x0), (1, LV.int .i64 x1), (4, LV.loc 0 0)], lam := [Ob.cells [LV.int .i64 o0_0, LV.int .i64 o0_1, LV.str o0_2, LV.int .i64 o0_3, LV.int .i64 o0_4]], pushed := false } μ
noncomputable def G58_28 (ρ : Rho) (x0 : List UInt8) (x1 : Int) (o0_0 : Int) (o0_1 : Int) (o0_2 : List UInt8) (o0_3 : Int) (o0_4 : Int) (μ : Mu) : Option St := ρ.seg H58 [(4, 0)] (codeAt E.P 58 [1, 1, 1])
 { fr := mkFr [(0, LV.str x0), (1, LV.int .i64 x1), (4, LV.loc 0 0)], lam := [Ob.cells [LV.int .i64 o0_0, LV.int .i64 o0_1, LV.str o0_2, LV.int .i64 o0_3, LV.int .i64 o0_4]], pushed := false } μ
noncomputable def L58_30 (ρ : Rho) (x0 : List UInt8) (x1 : Int) (x133 : List CV) (x134 : Int) (x135 : Int) (o0_0 : Int) (o0_1 : Int) (o0_2 : List UInt8) (o0_3 : Int) (o0_4 : Int) (o1_0 : Int) (o1_1 : Int) (o1_2 : List UInt8) (o1_3 : Int) (o1_4 : Int) (μ : Mu) : Option St := ρ.loop H58 [(0, 0), (1, 0), (4, 0), (11, 0)] (codeAt E.P 58 [1, 1, 1, 1, 0, 1, 0, 0])
 { fr := mkFr [(0, LV.str x0), (1, LV.int .i64 x1), (4, LV.loc 0 0), (11, LV.loc 1 0), (133, LV.cv (CV.sl x133)), (134, LV.int .i64 x134), (135, LV.int .i64 x135)], lam := [Ob.cells [LV.int .i64 o0_0, LV.int .i64 o0_1, LV.str o0_2, LV.int .i64 o0_3, LV.int .i64 o0_4], Ob.cells [LV.int .i64 o1_0, LV.int .i64 o1_1, LV.str o1_2, LV.int .i64 o1_3, LV.int .i64 o1_4]], pushed := false } μ
def XL58_30_0 (pv : CV) (μ : Mu) : St := .panic pv { fr := mkFr [], lam := [], pushed := false } μ
def XL58_30_1 (x0 : List UInt8) (x1 : Int) (o0_0 : Int) (o0_1 : Int) (o0_2 : List UInt8) (o0_3 : Int) (o0_4 : Int) (o1_0 : Int) (o1_1 : Int) (o1_2 : List UInt8) (o1_3 : Int) (o1_4 : Int) (μ : Mu) : St := .exit 7 { fr := mkFr [(0, LV.str x0), (1, LV.int .i64 x1), (4, LV.loc 0 0), (11, LV.loc 1 0)], lam := [Ob.cells [LV.int .i64 o0_0, LV.int .i64 o0_1, LV.str o0_2, LV.int .i64 o0_3, LV.int .i64 o0_4], Ob.cells [LV.int .i64 o1_0, LV.int .i64 o1_1, LV.str o1_2, LV.int .i64 o1_3, LV.int .i64 o1_4]], pushed := false } μ
def XG58_28_0 (pv : CV) (μ : Mu) : St := .panic pv { fr := mkFr [], lam := [], pushed := false } μ
noncomputable def L58_36 (ρ : Rho) (x0 : List UInt8) (x1 : Int) (x164 : List CV) (x165 : Int) (x166 : Int) (o0_0 : Int) (o0_1 : Int) (o0_2 : List UInt8) (o0_3 : Int) (o0_4 : Int) (o1_0 : Int) (o1_1 : Int) (o1_2 : List UInt8) (o1_3 : Int) (o1_4 : Int) (μ : Mu) : Option St := ρ.loop H58 [(4, 0), (11, 0)] (codeAt E.P 58 [1, 1, 1, 1, 1, 0, 1, 0, 0])
 { fr := mkFr [(0, LV.str x0), (1, LV.int .i64 x1), (4, LV.loc 0 0), (11, LV.loc 1 0), (164, LV.cv (CV.sl x164)), (165, LV.int .i64 x165), (166, LV.int .i64 x166)], lam := [Ob.cells [LV.int .i64 o0_0, LV.int .i64 o0_1, LV.str o0_2, LV.int .i64 o0_3, LV.int .i64 o0_4], Ob.cells [LV.int .i64 o1_0, LV.int .i64 o1_1, LV.str o1_2, LV.int .i64 o1_3, LV.int .i64 o1_4]], pushed := false } μ
def XL58_36_0 (pv : CV) (μ : Mu) : St := .panic pv { fr := mkFr [], lam := [], pushed := false } μ
def XL58_36_1 (o0_0 : Int) (o0_1 : Int) (o0_2 : List UInt8) (o0_3 : Int) (o0_4 : Int) (o1_0 : Int) (o1_1 : Int) (o1_2 : List UInt8) (o1_3 : Int) (o1_4 : Int) (μ : Mu) : St := .exit 9 { fr := mkFr [(4, LV.loc 0 0), (11, LV.loc 1 0)], lam := [Ob.cells [LV.int .i64 o0_0, LV.int .i64 o0_1, LV.str o0_2, LV.int .i64 o0_3, LV.int .i64 o0_4], Ob.cells [LV.int .i64 o1_0, LV.int .i64 o1_1, LV.str o1_2, LV.int .i64 o1_3, LV.int .i64 o1_4]], pushed := false } μ
def XG58_28_1 (o0_0 : Int) (o0_1 : Int) (o0_2 : List UInt8) (o0_3 : Int) (o0_4 : Int) (μ : Mu) : St := .ret { fr := mkFr [(4, LV.loc 0 0)], lam := [Ob.cells [LV.int .i64 o0_0, LV.int .i64 o0_1, LV.str o0_2, LV.int .i64 o0_3, LV.int .i64 o0_4]], pushed := false } μ
theorem nfL58_4 (ρ : Rho) (x0 : List UInt8) (x1 : Int) (x6 : Int) (o0_0 : Int) (o0_1 : Int) (o0_2 : List UInt8) (o0_3 : Int) (o0_4 : Int) (μ : Mu) : roundK E.P ρ H58 [(0, 0), (1, 0), (4, 0), (6, 0)] (codeAt E.P 58 [1, 1, 0, 0, 1, 0, 1, 0, 0, 0])
 { fr := mkFr [(0, LV.str x0), (1, LV.int .i64 x1), (4, LV.loc 0 0), (6, LV.int .i64 x6)], lam := [Ob.cells [LV.int .i64 o0_0, LV.int .i64 o0_1, LV.str o0_2, LV.int .i64 o0_3, LV.int .i64 o0_4]], pushed := false } μ =
 cond (decide (x6 < (List.length x0 : Int))) (
 opt (strAt x0 x6) fun y7 =>
 callK (ρ.call 96 [LV.int .u8 (y7.toNat : Int)] μ) (fun v8 μ9 =>
 opt (getBool v8) fun b12 =>
 cond (b12) (
 L58_4 ρ x0 x1 (IntKind.wrap .i64 (x6 + (1 : Int))) o0_0 o0_1 o0_2 o0_3 o0_4 μ9) (
 opt (strAt x0 x6) fun y13 =>
 callK (ρ.call 67 [LV.int .u8 (y13.toNat : Int)] μ9) (fun v14 μ15 =>
 opt (getBool v14) fun b18 =>
 cond (b18) (
 L58_4 ρ x0 x1 (IntKind.wrap .i64 (x6 + (1 : Int))) o0_0 o0_1 o0_2 o0_3 o0_4 μ15) (
 opt (strAt x0 x6) fun y19 =>
 cond (decide ((y19.toNat : Int) = (95 : Int))) (
 L58_4 ρ x0 x1 (IntKind.wrap .i64 (x6 + (1 : Int))) o0_0 o0_1 o0_2 o0_3 o0_4 μ15) (
 some (XL58_4_0 x0 x1 x6 o0_0 o0_1 o0_2 o0_3 o0_4 μ15)))) (fun v17 μ16 =>
 some (XL58_4_1 v17 μ16)))) (fun v11 μ10 =>
 some (XL58_4_1 v11 μ10))) (
 some (XL58_4_0 x0 x1 x6 o0_0 o0_1 o0_2 o0_3 o0_4 μ)) := by kernel_rfl
theorem nfG58_8 (ρ : Rho) (x0 : List UInt8) (x1 : Int) (x6 : Int) (o0_0 : Int) (o0_1 : Int) (o0_2 : List UInt8) (o0_3 : Int) (o0_4 : Int) (μ : Mu) : segK E.P ρ H58 [(0, 0), (1, 0), (4, 0)] (codeAt E.P 58 [1, 1, 0, 0, 1, 0, 1, 1, 1])
 { fr := mkFr [(0, LV.str x0), (1, LV.int .i64 x1), (4, LV.loc 0 0), (6, LV.int .i64 x6)], lam := [Ob.cells [LV.int .i64 o0_0, LV.int .i64 o0_1, LV.str o0_2, LV.int .i64 o0_3, LV.int .i64 o0_4]], pushed := false } μ =
 opt (cutA x0 x1 x6) fun s20 =>
 callK (ρ.call 97 [LV.str s20] μ) (fun v21 μ22 =>
 opt (getStr v21) fun s25 =>
 some (XG58_8_0 (0 : Int) (0 : Int) s25 x6 (0 : Int) μ22)) (fun v24 μ23 =>
 some (XG58_8_1 v24 μ23)) := by kernel_rfl
theorem nfXG58_8_0 (ρ : Rho) (o0_0 : Int) (o0_1 : Int) (o0_2 : List UInt8) (o0_3 : Int) (o0_4 : Int) (μ : Mu) : runK E.P ρ H58 [.block 0, .seq (codeAt E.P 58 [1, 1, 1])] (XG58_8_0 o0_0 o0_1 o0_2 o0_3 o0_4 μ) (bodyEnd E.P (resOf E.P 58)) =
 some (.ret (LV.cv (CV.agg [CV.int .i64 o0_0, CV.int .i64 o0_1, CV.str o0_2, CV.int .i64 o0_3, CV.int .i64 o0_4])) μ) := by kernel_rfl
theorem nfXL58_4_0 (ρ : Rho) (x0 : List UInt8) (x1 : Int) (x6 : Int) (o0_0 : Int) (o0_1 : Int) (o0_2 : List UInt8) (o0_3 : Int) (o0_4 : Int) (μ : Mu) : runK E.P ρ H58 [.block 1, .seq (codeAt E.P 58 [1, 1, 0, 0, 1, 0, 1, 1]), .block 0, .seq (codeAt E.P 58 [1, 1, 1])] (XL58_4_0 x0 x1 x6 o0_0 o0_1 o0_2 o0_3 o0_4 μ) (bodyEnd E.P (resOf E.P 58)) =
 cond (decide ((31 : Int) < IntKind.wrap .i64 (x6 - x1))) (
 some (.ret (LV.cv (CV.agg [CV.int .i64 (0 : Int), CV.int .i64 (0 : Int), CV.str ([] : List UInt8), CV.int .i64 (0 : Int), CV.int .i64 (4 : Int)])) μ)) (
 opt (G58_8 ρ x0 x1 x6 o0_0 o0_1 o0_2 o0_3 o0_4 μ) fun st26 => runK E.P ρ H58 [.block 0, .seq (codeAt E.P 58 [1, 1, 1])] st26 (bodyEnd E.P (resOf E.P 58))) := by kernel_rfl
theorem nfL58_14 (ρ : Rho) (x0 : List UInt8) (x1 : Int) (x85 : List CV) (x86 : Int) (x87 : Int) (o0_0 : Int) (o0_1 : Int) (o0_2 : List UInt8) (o0_3 : Int) (o0_4 : Int) (μ : Mu) : roundK E.P ρ H58 [(0, 0), (1, 0), (4, 0)] (codeAt E.P 58 [1, 1, 0, 0, 1, 1, 1, 1, 1, 0, 0, 1, 0, 0])
 { fr := mkFr [(0, LV.str x0), (1, LV.int .i64 x1), (4, LV.loc 0 0), (85, LV.cv (CV.sl x85)), (86, LV.int .i64 x86), (87, LV.int .i64 x87)], lam := [Ob.cells [LV.int .i64 o0_0, LV.int .i64 o0_1, LV.str o0_2, LV.int .i64 o0_3, LV.int .i64 o0_4]], pushed := false } μ =
 cond (decide (x87 < x86)) (
 opt (slAt x85 x87) fun c47 =>
 opt (getStr (LV.cv c47)) fun s48 =>
 callK (ρ.call 99 [LV.str x0, LV.int .i64 x1, LV.str s48] μ) (fun v49 μ50 =>
 opt (getBool v49) fun b53 =>
 cond (b53) (
 some (XL58_14_0 (2 : Int) (0 : Int) s48 (IntKind.wrap .i64 (x1 + (List.length s48 : Int))) (0 : Int) μ50)) (
 L58_14 ρ x0 x1 x85 x86 (IntKind.wrap .i64 (x87 + (1 : Int))) o0_0 o0_1 o0_2 o0_3 o0_4 μ50)) (fun v52 μ51 =>
 some (XL58_14_1 v52 μ51))) (
 some (XL58_14_2 x0 x1 o0_0 o0_1 o0_2 o0_3 o0_4 μ)) := by kernel_rfl
theorem nfXL58_14_0 (ρ : Rho) (o0_0 : Int) (o0_1 : Int) (o0_2 : List UInt8) (o0_3 : Int) (o0_4 : Int) (μ : Mu) : runK E.P ρ H58 [.block 3, .seq (codeAt E.P 58 [1, 1, 0, 0, 1, 1, 1, 1, 1, 0, 1])] (XL58_14_0 o0_0 o0_1 o0_2 o0_3 o0_4 μ) (segEnd H58 [(0, 0), (1, 0), (4, 0)]) =
 some (XG58_11_0 o0_0 o0_1 o0_2 o0_3 o0_4 μ) := by kernel_rfl
theorem nfL58_20 (ρ : Rho) (x0 : List UInt8) (x1 : Int) (x103 : List CV) (x104 : Int) (x105 : Int) (o0_0 : Int) (o0_1 : Int) (o0_2 : List UInt8) (o0_3 : Int) (o0_4 : Int) (μ : Mu) : roundK E.P ρ H58 [(4, 0)] (codeAt E.P 58 [1, 1, 0, 0, 1, 1, 1, 1, 1, 0, 1, 0, 1, 0, 0])
 { fr := mkFr [(0, LV.str x0), (1, LV.int .i64 x1), (4, LV.loc 0 0), (103, LV.cv (CV.sl x103)), (104, LV.int .i64 x104), (105, LV.int .i64 x105)], lam := [Ob.cells [LV.int .i64 o0_0, LV.int .i64 o0_1, LV.str o0_2, LV.int .i64 o0_3, LV.int .i64 o0_4]], pushed := false } μ =
 cond (decide (x105 < x104)) (
 opt (slAt x103 x105) fun c54 =>
 opt (getStr (LV.cv c54)) fun s55 =>
 callK (ρ.call 99 [LV.str x0, LV.int .i64 x1, LV.str s55] μ) (fun v56 μ57 =>
 opt (getBool v56) fun b60 =>
 cond (b60) (
 some (XL58_20_0 (1 : Int) (5 : Int) s55 (IntKind.wrap .i64 (x1 + (List.length s55 : Int))) (0 : Int) μ57)) (
 L58_20 ρ x0 x1 x103 x104 (IntKind.wrap .i64 (x105 + (1 : Int))) o0_0 o0_1 o0_2 o0_3 o0_4 μ57)) (fun v59 μ58 =>
 some (XL58_20_1 v59 μ58))) (
 some (XL58_20_2 o0_0 o0_1 o0_2 o0_3 o0_4 μ)) := by kernel_rfl
theorem nfXL58_20_0 (ρ : Rho) (o0_0 : Int) (o0_1 : Int) (o0_2 : List UInt8) (o0_3 : Int) (o0_4 : Int) (μ : Mu) : runK E.P ρ H58 [.block 5, .seq (codeAt E.P 58 [1, 1, 0, 0, 1, 1, 1, 1, 1, 0, 1, 1])] (XL58_20_0 o0_0 o0_1 o0_2 o0_3 o0_4 μ) (segEnd H58 [(0, 0), (1, 0), (4, 0)]) =
 some (XG58_11_0 o0_0 o0_1 o0_2 o0_3 o0_4 μ) := by kernel_rfl
theorem nfXL58_20_2 (ρ : Rho) (o0_0 : Int) (o0_1 : Int) (o0_2 : List UInt8) (o0_3 : Int) (o0_4 : Int) (μ : Mu) : runK E.P ρ H58 [.block 5, .seq (codeAt E.P 58 [1, 1, 0, 0, 1, 1, 1, 1, 1, 0, 1, 1])] (XL58_20_2 o0_0 o0_1 o0_2 o0_3 o0_4 μ) (segEnd H58 [(0, 0), (1, 0), (4, 0)]) =
 some (XG58_11_0 (0 : Int) (0 : Int) ([] : List UInt8) (0 : Int) (7 : Int) μ) := by kernel_rfl
theorem nfXL58_14_2 (ρ : Rho) (x0 : List UInt8) (x1 : Int) (o0_0 : Int) (o0_1 : Int) (o0_2 : List UInt8) (o0_3 : Int) (o0_4 : Int) (μ : Mu) : runK E.P ρ H58 [.block 3, .seq (codeAt E.P 58 [1, 1, 0, 0, 1, 1, 1, 1, 1, 0, 1])] (XL58_14_2 x0 x1 o0_0 o0_1 o0_2 o0_3 o0_4 μ) (segEnd H58 [(0, 0), (1, 0), (4, 0)]) =
 opt (L58_20 ρ x0 x1 [CV.str ([46, 84, 82, 85, 69, 46] : List UInt8), CV.str ([46, 70, 65, 76, 83, 69, 46] : List UInt8)] (2 : Int) (0 : Int) o0_0 o0_1 o0_2 o0_3 o0_4 μ) fun st61 => runK E.P ρ H58 [.block 5, .seq (codeAt E.P 58 [1, 1, 0, 0, 1, 1, 1, 1, 1, 0, 1, 1])] st61 (segEnd H58 [(0, 0), (1, 0), (4, 0)]) := by kernel_rfl
theorem nfG58_11 (ρ : Rho) (x0 : List UInt8) (x1 : Int) (x5 : Int) (x60 : Bool) (o0_0 : Int) (o0_1 : Int) (o0_2 : List UInt8) (o0_3 : Int) (o0_4 : Int) (μ : Mu) : segK E.P ρ H58 [(0, 0), (1, 0), (4, 0)] (codeAt E.P 58 [1, 1, 0, 0, 1, 1, 1])
 { fr := mkFr [(0, LV.str x0), (1, LV.int .i64 x1), (4, LV.loc 0 0), (5, LV.int .u8 x5), (60, LV.bool x60)], lam := [Ob.cells [LV.int .i64 o0_0, LV.int .i64 o0_1, LV.str o0_2, LV.int .i64 o0_3, LV.int .i64 o0_4]], pushed := false } μ =
 cond (x60) (
 callK (ρ.call 98 [LV.str x0, LV.int .i64 x1] μ) (fun v33 μ34 =>
 rd88 v33 fun n37 n38 s39 n40 n41 =>
 some (XG58_11_0 n37 n38 s39 n40 n41 μ34)) (fun v36 μ35 =>
 some (XG58_11_1 v36 μ35))) (
 cond (decide (x5 = (46 : Int))) (
 callK (ρ.call 55 [] μ) (fun v42 μ43 =>
 opt (getSl v42) fun l46 =>
 opt (L58_14 ρ x0 x1 l46 (List.length l46 : Int) (0 : Int) o0_0 o0_1 o0_2 o0_3 o0_4 μ43) fun st62 => runK E.P ρ H58 [.block 3, .seq (codeAt E.P 58 [1, 1, 0, 0, 1, 1, 1, 1, 1, 0, 1])] st62 (segEnd H58 [(0, 0), (1, 0), (4, 0)])) (fun v45 μ44 =>
 some (XG58_11_1 v45 μ44))) (
 cond (decide (x5 = (39 : Int))) (
 callK (ρ.call 81 [LV.str x0, LV.int .i64 x1] μ) (fun v63 μ64 =>
 rd88 v63 fun n67 n68 s69 n70 n71 =>
 some (XG58_11_0 n67 n68 s69 n70 n71 μ64)) (fun v66 μ65 =>
 some (XG58_11_1 v66 μ65))) (
 cond (decide (x5 = (34 : Int))) (
 callK (ρ.call 81 [LV.str x0, LV.int .i64 x1] μ) (fun v72 μ73 =>
 rd88 v72 fun n76 n77 s78 n79 n80 =>
 some (XG58_11_0 n76 n77 s78 n79 n80 μ73)) (fun v75 μ74 =>
 some (XG58_11_1 v75 μ74))) (
 some (XG58_11_2 x0 x1 o0_0 o0_1 o0_2 o0_3 o0_4 μ))))) := by kernel_rfl
theorem nfXG58_11_0 (ρ : Rho) (o0_0 : Int) (o0_1 : Int) (o0_2 : List UInt8) (o0_3 : Int) (o0_4 : Int) (μ : Mu) : runK E.P ρ H58 [.block 0, .seq (codeAt E.P 58 [1, 1, 1])] (XG58_11_0 o0_0 o0_1 o0_2 o0_3 o0_4 μ) (bodyEnd E.P (resOf E.P 58)) =
 some (.ret (LV.cv (CV.agg [CV.int .i64 o0_0, CV.int .i64 o0_1, CV.str o0_2, CV.int .i64 o0_3, CV.int .i64 o0_4])) μ) := by kernel_rfl
theorem nfL58_30 (ρ : Rho) (x0 : List UInt8) (x1 : Int) (x133 : List CV) (x134 : Int) (x135 : Int) (o0_0 : Int) (o0_1 : Int) (o0_2 : List UInt8) (o0_3 : Int) (o0_4 : Int) (o1_0 : Int) (o1_1 : Int) (o1_2 : List UInt8) (o1_3 : Int) (o1_4 : Int) (μ : Mu) : roundK E.P ρ H58 [(0, 0), (1, 0), (4, 0), (11, 0)] (codeAt E.P 58 [1, 1, 1, 1, 0, 1, 0, 0])
 { fr := mkFr [(0, LV.str x0), (1, LV.int .i64 x1), (4, LV.loc 0 0), (11, LV.loc 1 0), (133, LV.cv (CV.sl x133)), (134, LV.int .i64 x134), (135, LV.int .i64 x135)], lam := [Ob.cells [LV.int .i64 o0_0, LV.int .i64 o0_1, LV.str o0_2, LV.int .i64 o0_3, LV.int .i64 o0_4], Ob.cells [LV.int .i64 o1_0, LV.int .i64 o1_1, LV.str o1_2, LV.int .i64 o1_3, LV.int .i64 o1_4]], pushed := false } μ =
 cond (decide (x135 < x134)) (
 opt (slAt x133 x135) fun c86 =>
 rd126 (LV.cv c86) fun s87 s88 =>
 callK (ρ.call 99 [LV.str x0, LV.int .i64 x1, LV.str s87] μ) (fun v89 μ90 =>
 opt (getBool v89) fun b93 =>
 cond (b93) (
 cond (decide (o1_3 < IntKind.wrap .i64 (x1 + (List.length s87 : Int)))) (
 L58_30 ρ x0 x1 x133 x134 (IntKind.wrap .i64 (x135 + (1 : Int))) o0_0 o0_1 o0_2 o0_3 o0_4 (2 : Int) (0 : Int) s88 (IntKind.wrap .i64 (x1 + (List.length s87 : Int))) (0 : Int) μ90) (
 L58_30 ρ x0 x1 x133 x134 (IntKind.wrap .i64 (x135 + (1 : Int))) o0_0 o0_1 o0_2 o0_3 o0_4 o1_0 o1_1 o1_2 o1_3 o1_4 μ90)) (
 L58_30 ρ x0 x1 x133 x134 (IntKind.wrap .i64 (x135 + (1 : Int))) o0_0 o0_1 o0_2 o0_3 o0_4 o1_0 o1_1 o1_2 o1_3 o1_4 μ90)) (fun v92 μ91 =>
 some (XL58_30_0 v92 μ91))) (
 some (XL58_30_1 x0 x1 o0_0 o0_1 o0_2 o0_3 o0_4 o1_0 o1_1 o1_2 o1_3 o1_4 μ)) := by kernel_rfl
theorem nfL58_36 (ρ : Rho) (x0 : List UInt8) (x1 : Int) (x164 : List CV) (x165 : Int) (x166 : Int) (o0_0 : Int) (o0_1 : Int) (o0_2 : List UInt8) (o0_3 : Int) (o0_4 : Int) (o1_0 : Int) (o1_1 : Int) (o1_2 : List UInt8) (o1_3 : Int) (o1_4 : Int) (μ : Mu) : roundK E.P ρ H58 [(4, 0), (11, 0)] (codeAt E.P 58 [1, 1, 1, 1, 1, 0, 1, 0, 0])
 { fr := mkFr [(0, LV.str x0), (1, LV.int .i64 x1), (4, LV.loc 0 0), (11, LV.loc 1 0), (164, LV.cv (CV.sl x164)), (165, LV.int .i64 x165), (166, LV.int .i64 x166)], lam := [Ob.cells [LV.int .i64 o0_0, LV.int .i64 o0_1, LV.str o0_2, LV.int .i64 o0_3, LV.int .i64 o0_4], Ob.cells [LV.int .i64 o1_0, LV.int .i64 o1_1, LV.str o1_2, LV.int .i64 o1_3, LV.int .i64 o1_4]], pushed := false } μ =
 cond (decide (x166 < x165)) (
 opt (slAt x164 x166) fun c99 =>
 opt (getStr (LV.cv c99)) fun s100 =>
 callK (ρ.call 99 [LV.str x0, LV.int .i64 x1, LV.str s100] μ) (fun v101 μ102 =>
 opt (getBool v101) fun b105 =>
 cond (b105) (
 cond (decide (o1_3 < IntKind.wrap .i64 (x1 + (List.length s100 : Int)))) (
 L58_36 ρ x0 x1 x164 x165 (IntKind.wrap .i64 (x166 + (1 : Int))) o0_0 o0_1 o0_2 o0_3 o0_4 (2 : Int) (0 : Int) s100 (IntKind.wrap .i64 (x1 + (List.length s100 : Int))) (0 : Int) μ102) (
 L58_36 ρ x0 x1 x164 x165 (IntKind.wrap .i64 (x166 + (1 : Int))) o0_0 o0_1 o0_2 o0_3 o0_4 o1_0 o1_1 o1_2 o1_3 o1_4 μ102)) (
 L58_36 ρ x0 x1 x164 x165 (IntKind.wrap .i64 (x166 + (1 : Int))) o0_0 o0_1 o0_2 o0_3 o0_4 o1_0 o1_1 o1_2 o1_3 o1_4 μ102)) (fun v104 μ103 =>
 some (XL58_36_0 v104 μ103))) (
 some (XL58_36_1 o0_0 o0_1 o0_2 o0_3 o0_4 o1_0 o1_1 o1_2 o1_3 o1_4 μ)) := by kernel_rfl
theorem nfXL58_36_1 (ρ : Rho) (o0_0 : Int) (o0_1 : Int) (o0_2 : List UInt8) (o0_3 : Int) (o0_4 : Int) (o1_0 : Int) (o1_1 : Int) (o1_2 : List UInt8) (o1_3 : Int) (o1_4 : Int) (μ : Mu) : runK E.P ρ H58 [.block 9, .seq (codeAt E.P 58 [1, 1, 1, 1, 1, 1])] (XL58_36_1 o0_0 o0_1 o0_2 o0_3 o0_4 o1_0 o1_1 o1_2 o1_3 o1_4 μ) (segEnd H58 [(4, 0)]) =
 some (XG58_28_1 o1_0 o1_1 o1_2 o1_3 o1_4 μ) := by kernel_rfl
theorem nfXL58_30_1 (ρ : Rho) (x0 : List UInt8) (x1 : Int) (o0_0 : Int) (o0_1 : Int) (o0_2 : List UInt8) (o0_3 : Int) (o0_4 : Int) (o1_0 : Int) (o1_1 : Int) (o1_2 : List UInt8) (o1_3 : Int) (o1_4 : Int) (μ : Mu) : runK E.P ρ H58 [.block 7, .seq (codeAt E.P 58 [1, 1, 1, 1, 1])] (XL58_30_1 x0 x1 o0_0 o0_1 o0_2 o0_3 o0_4 o1_0 o1_1 o1_2 o1_3 o1_4 μ) (segEnd H58 [(4, 0)]) =
 callK (ρ.call 56 [] μ) (fun v94 μ95 =>
 opt (getSl v94) fun l98 =>
 opt (L58_36 ρ x0 x1 l98 (List.length l98 : Int) (0 : Int) o0_0 o0_1 o0_2 o0_3 o0_4 o1_0 o1_1 o1_2 o1_3 o1_4 μ95) fun st106 => runK E.P ρ H58 [.block 9, .seq (codeAt E.P 58 [1, 1, 1, 1, 1, 1])] st106 (segEnd H58 [(4, 0)])) (fun v97 μ96 =>
 some (XG58_28_0 v97 μ96)) := by kernel_rfl
theorem nfG58_28 (ρ : Rho) (x0 : List UInt8) (x1 : Int) (o0_0 : Int) (o0_1 : Int) (o0_2 : List UInt8) (o0_3 : Int) (o0_4 : Int) (μ : Mu) : segK E.P ρ H58 [(4, 0)] (codeAt E.P 58 [1, 1, 1])
 { fr := mkFr [(0, LV.str x0), (1, LV.int .i64 x1), (4, LV.loc 0 0)], lam := [Ob.cells [LV.int .i64 o0_0, LV.int .i64 o0_1, LV.str o0_2, LV.int .i64 o0_3, LV.int .i64 o0_4]], pushed := false } μ =
 callK (ρ.call 100 [] μ) (fun v81 μ82 =>
 opt (getSl v81) fun l85 =>
 opt (L58_30 ρ x0 x1 l85 (List.length l85 : Int) (0 : Int) o0_0 o0_1 o0_2 o0_3 o0_4 (0 : Int) (0 : Int) ([] : List UInt8) (0 : Int) (7 : Int) μ82) fun st107 => runK E.P ρ H58 [.block 7, .seq (codeAt E.P 58 [1, 1, 1, 1, 1])] st107 (segEnd H58 [(4, 0)])) (fun v84 μ83 =>
 some (XG58_28_0 v84 μ83)) := by kernel_rfl
theorem nfXG58_28_1 (ρ : Rho) (o0_0 : Int) (o0_1 : Int) (o0_2 : List UInt8) (o0_3 : Int) (o0_4 : Int) (μ : Mu) : runK E.P ρ H58 [] (XG58_28_1 o0_0 o0_1 o0_2 o0_3 o0_4 μ) (bodyEnd E.P (resOf E.P 58)) =
 some (.ret (LV.cv (CV.agg [CV.int .i64 o0_0, CV.int .i64 o0_1, CV.str o0_2, CV.int .i64 o0_3, CV.int .i64 o0_4])) μ) := by kernel_rfl
theorem nfXG58_11_2 (ρ : Rho) (x0 : List UInt8) (x1 : Int) (o0_0 : Int) (o0_1 : Int) (o0_2 : List UInt8) (o0_3 : Int) (o0_4 : Int) (μ : Mu) : runK E.P ρ H58 [.block 0, .seq (codeAt E.P 58 [1, 1, 1])] (XG58_11_2 x0 x1 o0_0 o0_1 o0_2 o0_3 o0_4 μ) (bodyEnd E.P (resOf E.P 58)) =
 opt (G58_28 ρ x0 x1 o0_0 o0_1 o0_2 o0_3 o0_4 μ) fun st108 => runK E.P ρ H58 [] st108 (bodyEnd E.P (resOf E.P 58)) := by kernel_rfl
theorem nf58 (ρ : Rho) (a : List UInt8) (b : Int) (μ : Mu) : callStep E ρ 58 [LV.str a, LV.int .i64 b] μ =
 opt (strAt a b) fun y1 =>
 callK (ρ.call 96 [LV.int .u8 (y1.toNat : Int)] μ) (fun v2 μ3 =>
 opt (getBool v2) fun b6 =>
 cond (b6) (
 opt (L58_4 ρ a b b (0 : Int) (0 : Int) ([] : List UInt8) (0 : Int) (0 : Int) μ3) fun st27 => runK E.P ρ H58 [.block 1, .seq (codeAt E.P 58 [1, 1, 0, 0, 1, 0, 1, 1]), .block 0, .seq (codeAt E.P 58 [1, 1, 1])] st27 (bodyEnd E.P (resOf E.P 58))) (
 callK (ρ.call 67 [LV.int .u8 (y1.toNat : Int)] μ3) (fun v28 μ29 =>
 opt (getBool v28) fun b32 =>
 cond (b32) (
 opt (G58_11 ρ a b (y1.toNat : Int) b32 (0 : Int) (0 : Int) ([] : List UInt8) (0 : Int) (0 : Int) μ29) fun st109 => runK E.P ρ H58 [.block 0, .seq (codeAt E.P 58 [1, 1, 1])] st109 (bodyEnd E.P (resOf E.P 58))) (
 cond (decide ((y1.toNat : Int) = (46 : Int))) (
 cond (decide (IntKind.wrap .i64 (b + (1 : Int)) < (List.length a : Int))) (
 opt (strAt a (IntKind.wrap .i64 (b + (1 : Int)))) fun y110 =>
 callK (ρ.call 67 [LV.int .u8 (y110.toNat : Int)] μ29) (fun v111 μ112 =>
 opt (getBool v111) fun b115 =>
 opt (G58_11 ρ a b (y1.toNat : Int) b115 (0 : Int) (0 : Int) ([] : List UInt8) (0 : Int) (0 : Int) μ112) fun st116 => runK E.P ρ H58 [.block 0, .seq (codeAt E.P 58 [1, 1, 1])] st116 (bodyEnd E.P (resOf E.P 58))) (fun v114 μ113 =>
 guardB (below (List.length μ113) v114) (some (.panic v114 μ113)))) (
 opt (G58_11 ρ a b (y1.toNat : Int) false (0 : Int) (0 : Int) ([] : List UInt8) (0 : Int) (0 : Int) μ29) fun st117 => runK E.P ρ H58 [.block 0, .seq (codeAt E.P 58 [1, 1, 1])] st117 (bodyEnd E.P (resOf E.P 58)))) (
 opt (G58_11 ρ a b (y1.toNat : Int) false (0 : Int) (0 : Int) ([] : List UInt8) (0 : Int) (0 : Int) μ29) fun st118 => runK E.P ρ H58 [.block 0, .seq (codeAt E.P 58 [1, 1, 1])] st118 (bodyEnd E.P (resOf E.P 58))))) (fun v31 μ30 =>
 guardB (below (List.length μ30) v31) (some (.panic v31 μ30))))) (fun v5 μ4 =>
 guardB (below (List.length μ4) v5) (some (.panic v5 μ4))) := by kernel_rfl
theorem nf65 (ρ : Rho) (a : List UInt8) (b : Bool) (μ : Mu) : callStep E ρ 65 [LV.str a, LV.bool b] μ =
 cond (b) (
 callK (ρ.call 62 [LV.str a, LV.str ([48] : List UInt8)] μ) (fun v1 μ2 =>
 opt (getStr v1) fun s5 =>
 cond (decide (s5 = ([] : List UInt8))) (
 some (.ret (LV.str ([48] : List UInt8)) μ2)) (
 some (.ret (LV.str s5) μ2))) (fun v4 μ3 =>
 guardB (below (List.length μ3) v4) (some (.panic v4 μ3)))) (
 callK (ρ.call 63 [LV.str a, LV.str ([48] : List UInt8)] μ) (fun v6 μ7 =>
 opt (getStr v6) fun s10 =>
 cond (decide (s10 = ([] : List UInt8))) (
 some (.ret (LV.str ([48] : List UInt8)) μ7)) (
 some (.ret (LV.str s10) μ7))) (fun v9 μ8 =>
 guardB (below (List.length μ8) v9) (some (.panic v9 μ8)))) := by kernel_rfl
theorem nf67 (ρ : Rho) (a : Int) (μ : Mu) : callStep E ρ 67 [LV.int .u8 a] μ =
 cond (decide ((48 : Int) ≤ a)) (
 some (.ret (LV.bool (decide (a ≤ (57 : Int)))) μ)) (
 some (.ret (LV.bool false) μ)) := by kernel_rfl
noncomputable def L69_1 (ρ : Rho) (x0 : List UInt8) (μ : Mu) : Option St := ρ.loop H69 [(0, 0)] (codeAt E.P 69 [1, 0, 0, 0])
 { fr := mkFr [(0, LV.str x0)], lam := [], pushed := false } μ
def XL69_1_0 (x0 : List UInt8) (μ : Mu) : St := .exit 0 { fr := mkFr [(0, LV.str x0)], lam := [], pushed := false } μ
theorem nfL69_1 (ρ : Rho) (x0 : List UInt8) (μ : Mu) : roundK E.P ρ H69 [(0, 0)] (codeAt E.P 69 [1, 0, 0, 0])
 { fr := mkFr [(0, LV.str x0)], lam := [], pushed := false } μ =
 cond (decide ((1 : Int) < (List.length x0 : Int))) (
 opt (strAt x0 (0 : Int)) fun y1 =>
 cond (decide ((y1.toNat : Int) = (48 : Int))) (
 opt (cutA x0 (1 : Int) (List.length x0 : Int)) fun s2 =>
 L69_1 ρ s2 μ) (
 some (XL69_1_0 x0 μ))) (
 some (XL69_1_0 x0 μ)) := by kernel_rfl
theorem nfXL69_1_0 (ρ : Rho) (x0 : List UInt8) (μ : Mu) : runK E.P ρ H69 [.block 0, .seq (codeAt E.P 69 [1, 1])] (XL69_1_0 x0 μ) (bodyEnd E.P (resOf E.P 69)) =
 some (.ret (LV.str x0) μ) := by kernel_rfl
theorem nf69 (ρ : Rho) (a : List UInt8) (μ : Mu) : callStep E ρ 69 [LV.str a] μ =
 opt (L69_1 ρ a μ) fun st3 => runK E.P ρ H69 [.block 0, .seq (codeAt E.P 69 [1, 1])] st3 (bodyEnd E.P (resOf E.P 69)) := by kernel_rfl
theorem nf70 (ρ : Rho) (a : List UInt8) (μ : Mu) : callStep E ρ 70 [LV.str a] μ =
 cond (decide (a = ([] : List UInt8))) (
 some (.ret (LV.str ([48] : List UInt8)) μ)) (
 some (.ret (LV.str a) μ)) := by kernel_rfl
noncomputable def G71_4 (ρ : Rho) (x0 : Int) (μ : Mu) : Option St := ρ.seg H71 [(0, 0)] (codeAt E.P 71 [1, 0, 1, 0, 1])
 { fr := mkFr [(0, LV.int .i64 x0)], lam := [], pushed := false } μ
def XG71_4_0 (x2 : List UInt8) (μ : Mu) : St := .ret { fr := mkFr [(2, LV.str x2)], lam := [], pushed := false } μ
def XG71_4_1 (pv : CV) (μ : Mu) : St := .panic pv { fr := mkFr [], lam := [], pushed := false } μ
noncomputable def G71_5 (ρ : Rho) (x0 : Int) (μ : Mu) : Option St := ρ.seg H71 [(2, 0)] (codeAt E.P 71 [1, 1])
 { fr := mkFr [(0, LV.int .i64 x0)], lam := [], pushed := false } μ
def XG71_5_0 (x2 : List UInt8) (μ : Mu) : St := .ret { fr := mkFr [(2, LV.str x2)], lam := [], pushed := false } μ
def XG71_5_1 (pv : CV) (μ : Mu) : St := .panic pv { fr := mkFr [], lam := [], pushed := false } μ
theorem nfG71_4 (ρ : Rho) (x0 : Int) (μ : Mu) : segK E.P ρ H71 [(0, 0)] (codeAt E.P 71 [1, 0, 1, 0, 1])
 { fr := mkFr [(0, LV.int .i64 x0)], lam := [], pushed := false } μ =
 callK (ρ.call 71 [LV.int .i64 (IntKind.wrap .i64 (Int.tdiv x0 (10 : Int)))] μ) (fun v6 μ7 =>
 opt (getStr v6) fun s10 =>
 callK (ρ.call 71 [LV.int .i64 (IntKind.wrap .i64 (0 - Int.tmod x0 (10 : Int)))] μ7) (fun v11 μ12 =>
 opt (getStr v11) fun s15 =>
 guardB (small (List.length s10 + List.length s15)) (
 some (XG71_4_0 (s10 ++ s15) μ12))) (fun v14 μ13 =>
 some (XG71_4_1 v14 μ13))) (fun v9 μ8 =>
 some (XG71_4_1 v9 μ8)) := by kernel_rfl
theorem nfXG71_4_0 (ρ : Rho) (x2 : List UInt8) (μ : Mu) : runK E.P ρ H71 [.seq (codeAt E.P 71 [1, 1])] (XG71_4_0 x2 μ) (bodyEnd E.P (resOf E.P 71)) =
 some (.ret (LV.str x2) μ) := by kernel_rfl
theorem nfG71_5 (ρ : Rho) (x0 : Int) (μ : Mu) : segK E.P ρ H71 [(2, 0)] (codeAt E.P 71 [1, 1])
 { fr := mkFr [(0, LV.int .i64 x0)], lam := [], pushed := false } μ =
 cond (decide ((9 : Int) < x0)) (
 callK (ρ.call 71 [LV.int .i64 (IntKind.wrap .i64 (Int.tdiv x0 (10 : Int)))] μ) (fun v17 μ18 =>
 opt (getStr v17) fun s21 =>
 callK (ρ.call 71 [LV.int .i64 (Int.tmod x0 (10 : Int))] μ18) (fun v22 μ23 =>
 opt (getStr v22) fun s26 =>
 guardB (small (List.length s21 + List.length s26)) (
 some (XG71_5_0 (s21 ++ s26) μ23))) (fun v25 μ24 =>
 some (XG71_5_1 v25 μ24))) (fun v20 μ19 =>
 some (XG71_5_1 v20 μ19))) (
 opt (cutA ([48, 49, 50, 51, 52, 53, 54, 55, 56, 57] : List UInt8) x0 (IntKind.wrap .i64 (x0 + (1 : Int)))) fun s27 =>
 some (XG71_5_0 s27 μ)) := by kernel_rfl
theorem nfXG71_5_0 (ρ : Rho) (x2 : List UInt8) (μ : Mu) : runK E.P ρ H71 [] (XG71_5_0 x2 μ) (bodyEnd E.P (resOf E.P 71)) =
 some (.ret (LV.str x2) μ) := by kernel_rfl
theorem nf71 (ρ : Rho) (a : Int) (μ : Mu) : callStep E ρ 71 [LV.int .i64 a] μ =
 cond (decide (a < (0 : Int))) (
 cond (decide ((-10 : Int) < a)) (
 callK (ρ.call 71 [LV.int .i64 (IntKind.wrap .i64 (0 - a))] μ) (fun v1 μ2 =>
 opt (getStr v1) fun s5 =>
 guardB (small (List.length ([45] : List UInt8) + List.length s5)) (
 some (.ret (LV.str (([45] : List UInt8) ++ s5)) μ2))) (fun v4 μ3 =>
 guardB (below (List.length μ3) v4) (some (.panic v4 μ3)))) (
 opt (G71_4 ρ a μ) fun st16 => runK E.P ρ H71 [.seq (codeAt E.P 71 [1, 1])] st16 (bodyEnd E.P (resOf E.P 71)))) (
 opt (G71_5 ρ a μ) fun st28 => runK E.P ρ H71 [] st28 (bodyEnd E.P (resOf E.P 71))) := by kernel_rfl
noncomputable def G78_5 (ρ : Rho) (o0_0 : List UInt8) (o0_1 : Bool) (μ : Mu) : Option St := ρ.seg H78 [(4, 0), (5, 0), (6, 0)] (codeAt E.P 78 [1, 1, 1])
 { fr := mkFr [(7, LV.loc 0 0)], lam := [Ob.cells [LV.str o0_0, LV.bool o0_1, LV.cv (CV.v (.slice none 0 0)), LV.cv (CV.v (.slice none 0 0))]], pushed := false } μ
noncomputable def G78_6 (ρ : Rho) (x9 : Int) (x10 : Int) (lam : Lam) (μ : Mu) : Option St := ρ.seg H78 [(7, 0)] (codeAt E.P 78 [1, 1, 1, 0, 1])
 { fr := mkFr [(7, LV.loc 0 0), (9, LV.int .i64 x9), (10, LV.int .i64 x10)], lam := lam, pushed := true } μ
def XG78_6_0 (x4_0 : List UInt8) (x4_1 : Bool) (x4_2 : List CV) (x4_3 : List CV) (x5 : Int) (x6 : Int) (μ : Mu) : St := .ret { fr := mkFr [(4, LV.cv (CV.view [CV.str x4_0, CV.bool x4_1, CV.sl x4_2, CV.sl x4_3])), (5, LV.int .i64 x5), (6, LV.int .i64 x6)], lam := [Ob.dead], pushed := true } μ
def XG78_6_1 (o0_0 : List UInt8) (o0_1 : Bool) (o0_2 : List CV) (o0_3 : List CV) (μ : Mu) : St := .norm { fr := mkFr [(7, LV.loc 0 0)], lam := [Ob.cells [LV.str o0_0, LV.bool o0_1, LV.osl o0_2, LV.osl o0_3]], pushed := true } μ
def XG78_5_0 (x4_0 : List UInt8) (x4_1 : Bool) (x4_2 : List CV) (x4_3 : List CV) (x5 : Int) (x6 : Int) (μ : Mu) : St := .ret { fr := mkFr [(4, LV.cv (CV.view [CV.str x4_0, CV.bool x4_1, CV.sl x4_2, CV.sl x4_3])), (5, LV.int .i64 x5), (6, LV.int .i64 x6)], lam := [Ob.dead], pushed := true } μ
noncomputable def G78_8 (ρ : Rho) (lam : Lam) (μ : Mu) : Option St := ρ.seg H78 [(4, 0), (5, 0), (6, 0)] (codeAt E.P 78 [1, 1, 1, 1])
 { fr := mkFr [(7, LV.loc 0 0)], lam := lam, pushed := true } μ
def XG78_8_0 (x4_0 : List UInt8) (x4_1 : Bool) (x4_2 : List CV) (x4_3 : List CV) (x5 : Int) (x6 : Int) (μ : Mu) : St := .ret { fr := mkFr [(4, LV.cv (CV.view [CV.str x4_0, CV.bool x4_1, CV.sl x4_2, CV.sl x4_3])), (5, LV.int .i64 x5), (6, LV.int .i64 x6)], lam := [Ob.dead], pushed := true } μ
noncomputable def G78_10 (ρ : Rho) (x7_0 : List UInt8) (x7_1 : Bool) (x7_2 : List CV) (x7_3 : List CV) (lam : Lam) (μ : Mu) : Option St := ρ.seg H78 [(4, 0), (5, 0), (6, 0)] (codeAt E.P 78 [1, 1, 1, 1, 1])
 { fr := mkFr [(7, LV.cv (CV.view [CV.str x7_0, CV.bool x7_1, CV.sl x7_2, CV.sl x7_3]))], lam := lam, pushed := true } μ
def XG78_10_0 (x4_0 : List UInt8) (x4_1 : Bool) (x4_2 : List CV) (x4_3 : List CV) (x5 : Int) (x6 : Int) (o0 : Ob) (μ : Mu) : St := .ret { fr := mkFr [(4, LV.cv (CV.view [CV.str x4_0, CV.bool x4_1, CV.sl x4_2, CV.sl x4_3])), (5, LV.int .i64 x5), (6, LV.int .i64 x6)], lam := [o0], pushed := true } μ
def XG78_8_1 (x4_0 : List UInt8) (x4_1 : Bool) (x4_2 : List CV) (x4_3 : List CV) (x5 : Int) (x6 : Int) (o0 : Ob) (μ : Mu) : St := .ret { fr := mkFr [(4, LV.cv (CV.view [CV.str x4_0, CV.bool x4_1, CV.sl x4_2, CV.sl x4_3])), (5, LV.int .i64 x5), (6, LV.int .i64 x6)], lam := [o0], pushed := true } μ
def XG78_5_1 (x4_0 : List UInt8) (x4_1 : Bool) (x4_2 : List CV) (x4_3 : List CV) (x5 : Int) (x6 : Int) (o0 : Ob) (μ : Mu) : St := .ret { fr := mkFr [(4, LV.cv (CV.view [CV.str x4_0, CV.bool x4_1, CV.sl x4_2, CV.sl x4_3])), (5, LV.int .i64 x5), (6, LV.int .i64 x6)], lam := [o0], pushed := true } μ
def XG78_5_2 (pv : CV) (lam : Lam) (μ : Mu) : St := .panic pv { fr := mkFr [], lam := lam, pushed := true } μ
theorem nfG78_6 (ρ : Rho) (x9 : Int) (x10 : Int) (o0_0 : List UInt8) (o0_1 : Bool) (o0_2 : List CV) (o0_3 : List CV) (μ : Mu) : segK E.P ρ H78 [(7, 0)] (codeAt E.P 78 [1, 1, 1, 0, 1])
 { fr := mkFr [(7, LV.loc 0 0), (9, LV.int .i64 x9), (10, LV.int .i64 x10)], lam := [Ob.cells [LV.str o0_0, LV.bool o0_1, LV.osl o0_2, LV.osl o0_3]], pushed := true } μ =
 cond (!decide (x10 = (0 : Int))) (
 some (XG78_6_0 o0_0 o0_1 o0_2 o0_3 x9 x10 μ)) (
 some (XG78_6_1 o0_0 o0_1 o0_2 o0_3 μ)) := by kernel_rfl
theorem nfXG78_6_0 (ρ : Rho) (x4_0 : List UInt8) (x4_1 : Bool) (x4_2 : List CV) (x4_3 : List CV) (x5 : Int) (x6 : Int) (μ : Mu) : runK E.P ρ H78 [.seq (codeAt E.P 78 [1, 1, 1, 1])] (XG78_6_0 x4_0 x4_1 x4_2 x4_3 x5 x6 μ) (segEnd H78 [(4, 0), (5, 0), (6, 0)]) =
 some (XG78_5_0 x4_0 x4_1 x4_2 x4_3 x5 x6 μ) := by kernel_rfl
theorem nfG78_10 (ρ : Rho) (x7_0 : List UInt8) (x7_1 : Bool) (x7_2 : List CV) (x7_3 : List CV) (o0 : Ob) (μ : Mu) : segK E.P ρ H78 [(4, 0), (5, 0), (6, 0)] (codeAt E.P 78 [1, 1, 1, 1, 1])
 { fr := mkFr [(7, LV.cv (CV.view [CV.str x7_0, CV.bool x7_1, CV.sl x7_2, CV.sl x7_3]))], lam := [o0], pushed := true } μ =
 some (XG78_10_0 x7_0 x7_1 x7_2 x7_3 (List.length x7_2 : Int) (0 : Int) o0 μ) := by kernel_rfl
theorem nfXG78_10_0 (ρ : Rho) (x4_0 : List UInt8) (x4_1 : Bool) (x4_2 : List CV) (x4_3 : List CV) (x5 : Int) (x6 : Int) (o0 : Ob) (μ : Mu) : runK E.P ρ H78 [] (XG78_10_0 x4_0 x4_1 x4_2 x4_3 x5 x6 o0 μ) (segEnd H78 [(4, 0), (5, 0), (6, 0)]) =
 some (XG78_8_1 x4_0 x4_1 x4_2 x4_3 x5 x6 o0 μ) := by kernel_rfl
theorem nfG78_8 (ρ : Rho) (o0_0 : List UInt8) (o0_1 : Bool) (o0_2 : List CV) (o0_3 : List CV) (μ : Mu) : segK E.P ρ H78 [(4, 0), (5, 0), (6, 0)] (codeAt E.P 78 [1, 1, 1, 1])
 { fr := mkFr [(7, LV.loc 0 0)], lam := [Ob.cells [LV.str o0_0, LV.bool o0_1, LV.osl o0_2, LV.osl o0_3]], pushed := true } μ =
 cond (decide ((300 : Int) < (List.length o0_2 : Int))) (
 some (XG78_8_0 o0_0 o0_1 o0_2 o0_3 (0 : Int) (8 : Int) μ)) (
 opt (G78_10 ρ o0_0 o0_1 o0_2 o0_3 [Ob.dead] μ) fun st19 => runK E.P ρ H78 [] st19 (segEnd H78 [(4, 0), (5, 0), (6, 0)])) := by kernel_rfl
theorem nfXG78_8_0 (ρ : Rho) (x4_0 : List UInt8) (x4_1 : Bool) (x4_2 : List CV) (x4_3 : List CV) (x5 : Int) (x6 : Int) (μ : Mu) : runK E.P ρ H78 [] (XG78_8_0 x4_0 x4_1 x4_2 x4_3 x5 x6 μ) (segEnd H78 [(4, 0), (5, 0), (6, 0)]) =
 some (XG78_5_0 x4_0 x4_1 x4_2 x4_3 x5 x6 μ) := by kernel_rfl
theorem nfXG78_8_1 (ρ : Rho) (x4_0 : List UInt8) (x4_1 : Bool) (x4_2 : List CV) (x4_3 : List CV) (x5 : Int) (x6 : Int) (o0 : Ob) (μ : Mu) : runK E.P ρ H78 [] (XG78_8_1 x4_0 x4_1 x4_2 x4_3 x5 x6 o0 μ) (segEnd H78 [(4, 0), (5, 0), (6, 0)]) =
 some (XG78_5_1 x4_0 x4_1 x4_2 x4_3 x5 x6 o0 μ) := by kernel_rfl
theorem nfXG78_6_1 (ρ : Rho) (o0_0 : List UInt8) (o0_1 : Bool) (o0_2 : List CV) (o0_3 : List CV) (μ : Mu) : runK E.P ρ H78 [.seq (codeAt E.P 78 [1, 1, 1, 1])] (XG78_6_1 o0_0 o0_1 o0_2 o0_3 μ) (segEnd H78 [(4, 0), (5, 0), (6, 0)]) =
 opt (G78_8 ρ [Ob.cells [LV.str o0_0, LV.bool o0_1, LV.osl o0_2, LV.osl o0_3]] μ) fun st20 => runK E.P ρ H78 [] st20 (segEnd H78 [(4, 0), (5, 0), (6, 0)]) := by kernel_rfl
theorem nfG78_5 (ρ : Rho) (o0_0 : List UInt8) (o0_1 : Bool) (μ : Mu) : segK E.P ρ H78 [(4, 0), (5, 0), (6, 0)] (codeAt E.P 78 [1, 1, 1])
 { fr := mkFr [(7, LV.loc 0 0)], lam := [Ob.cells [LV.str o0_0, LV.bool o0_1, LV.cv (CV.v (.slice none 0 0)), LV.cv (CV.v (.slice none 0 0))]], pushed := false } μ =
 callK (ρ.call 118 [LV.cv (CV.ref (List.length μ) 0 0)] (μ ++ [[Ob.cells [LV.str o0_0, LV.bool o0_1, LV.cv (CV.v (.slice none 0 0)), LV.cv (CV.v (.slice none 0 0))]]])) (fun v6 μ7 =>
 opt (popMu μ7) fun q8 =>
 opt (getTup v6) fun xs12 =>
 opt (uncons xs12) fun q13 =>
 opt (getInt .i64 q13.1) fun n14 =>
 opt (uncons q13.2) fun q15 =>
 opt (getInt .i64 q15.1) fun n16 =>
 opt (isNilL q15.2) fun u17 =>
 obsL [(0, [0, 0, 1, 1])] q8.2 fun lam18 =>
 opt (G78_6 ρ n14 n16 lam18 q8.1) fun st21 => runK E.P ρ H78 [.seq (codeAt E.P 78 [1, 1, 1, 1])] st21 (segEnd H78 [(4, 0), (5, 0), (6, 0)])) (fun v10 μ9 =>
 opt (popMu μ9) fun q11 =>
 some (XG78_5_2 v10 q11.2 q11.1)) := by kernel_rfl
theorem nfXG78_5_0 (ρ : Rho) (x4_0 : List UInt8) (x4_1 : Bool) (x4_2 : List CV) (x4_3 : List CV) (x5 : Int) (x6 : Int) (μ : Mu) : runK E.P ρ H78 [] (XG78_5_0 x4_0 x4_1 x4_2 x4_3 x5 x6 μ) (bodyEnd E.P (resOf E.P 78)) =
 guardB (belowRes (List.length μ) (LV.ltup [LV.cv (CV.view [CV.str x4_0, CV.bool x4_1, CV.sl x4_2, CV.sl x4_3]), LV.int .i64 x5, LV.int .i64 x6])) (some (.ret (LV.ltup [LV.cv (CV.view [CV.str x4_0, CV.bool x4_1, CV.sl x4_2, CV.sl x4_3]), LV.int .i64 x5, LV.int .i64 x6]) μ)) := by kernel_rfl
theorem nfXG78_5_1 (ρ : Rho) (x4_0 : List UInt8) (x4_1 : Bool) (x4_2 : List CV) (x4_3 : List CV) (x5 : Int) (x6 : Int) (o0 : Ob) (μ : Mu) : runK E.P ρ H78 [] (XG78_5_1 x4_0 x4_1 x4_2 x4_3 x5 x6 o0 μ) (bodyEnd E.P (resOf E.P 78)) =
 guardB (belowRes (List.length μ) (LV.ltup [LV.cv (CV.view [CV.str x4_0, CV.bool x4_1, CV.sl x4_2, CV.sl x4_3]), LV.int .i64 x5, LV.int .i64 x6])) (some (.ret (LV.ltup [LV.cv (CV.view [CV.str x4_0, CV.bool x4_1, CV.sl x4_2, CV.sl x4_3]), LV.int .i64 x5, LV.int .i64 x6]) μ)) := by kernel_rfl
theorem nf78 (ρ : Rho) (a : List UInt8) (b : Bool) (μ : Mu) : callStep E ρ 78 [LV.str a, LV.bool b] μ =
 callK (ρ.call 117 [LV.str a] μ) (fun v1 μ2 =>
 opt (getInt .i64 v1) fun n5 =>
 cond (!decide (n5 = (0 : Int))) (
 some (.ret (LV.ltup [LV.cv (CV.view [CV.str a, CV.bool b, CV.v (.slice none 0 0), CV.v (.slice none 0 0)]), LV.int .i64 (0 : Int), LV.int .i64 n5]) μ2)) (
 opt (G78_5 ρ a b μ2) fun st22 => runK E.P ρ H78 [] st22 (bodyEnd E.P (resOf E.P 78)))) (fun v4 μ3 =>
 guardB (below (List.length μ3) v4) (some (.panic v4 μ3))) := by kernel_rfl
noncomputable def L81_4 (ρ : Rho) (x0 : List UInt8) (x5 : Int) (x6 : List UInt8) (x7 : Int) (o0_0 : Int) (o0_1 : Int) (o0_2 : List UInt8) (o0_3 : Int) (o0_4 : Int) (μ : Mu) : Option St := ρ.loop H81 [(4, 0)] (codeAt E.P 81 [1, 1, 1, 0, 1, 0, 0])
 { fr := mkFr [(0, LV.str x0), (4, LV.loc 0 0), (5, LV.int .u8 x5), (6, LV.str x6), (7, LV.int .i64 x7)], lam := [Ob.cells [LV.int .i64 o0_0, LV.int .i64 o0_1, LV.str o0_2, LV.int .i64 o0_3, LV.int .i64 o0_4]], pushed := false } μ
noncomputable def G81_8 (ρ : Rho) (x0 : List UInt8) (x5 : Int) (x6 : List UInt8) (x7 : Int) (o0_0 : Int) (o0_1 : Int) (o0_2 : List UInt8) (o0_3 : Int) (o0_4 : Int) (μ : Mu) : Option St := ρ.seg H81 [(0, 0), (4, 0), (5, 0), (6, 0), (7, 0)] (codeAt E.P 81 [1, 1, 1, 0, 1, 0, 0, 1, 0, 0, 1])
 { fr := mkFr [(0, LV.str x0), (4, LV.loc 0 0), (5, LV.int .u8 x5), (6, LV.str x6), (7, LV.int .i64 x7)], lam := [Ob.cells [LV.int .i64 o0_0, LV.int .i64 o0_1, LV.str o0_2, LV.int .i64 o0_3, LV.int .i64 o0_4]], pushed := false } μ
def XG81_8_0 (x0 : List UInt8) (x5 : Int) (x6 : List UInt8) (x7 : Int) (o0_0 : Int) (o0_1 : Int) (o0_2 : List UInt8) (o0_3 : Int) (o0_4 : Int) (μ : Mu) : St := .exit 1 { fr := mkFr [(0, LV.str x0), (4, LV.loc 0 0), (5, LV.int .u8 x5), (6, LV.str x6), (7, LV.int .i64 x7)], lam := [Ob.cells [LV.int .i64 o0_0, LV.int .i64 o0_1, LV.str o0_2, LV.int .i64 o0_3, LV.int .i64 o0_4]], pushed := false } μ
noncomputable def G81_11 (ρ : Rho) (x6 : List UInt8) (x7 : Int) (o0_0 : Int) (o0_1 : Int) (o0_2 : List UInt8) (o0_3 : Int) (o0_4 : Int) (μ : Mu) : Option St := ρ.seg H81 [(0, 0), (4, 0), (5, 0), (6, 0), (7, 0)] (codeAt E.P 81 [1, 1, 1, 0, 1, 0, 0, 1, 0, 0, 1, 1])
 { fr := mkFr [(4, LV.loc 0 0), (6, LV.str x6), (7, LV.int .i64 x7)], lam := [Ob.cells [LV.int .i64 o0_0, LV.int .i64 o0_1, LV.str o0_2, LV.int .i64 o0_3, LV.int .i64 o0_4]], pushed := false } μ
def XG81_11_0 (o0_0 : Int) (o0_1 : Int) (o0_2 : List UInt8) (o0_3 : Int) (o0_4 : Int) (μ : Mu) : St := .ret { fr := mkFr [(4, LV.loc 0 0)], lam := [Ob.cells [LV.int .i64 o0_0, LV.int .i64 o0_1, LV.str o0_2, LV.int .i64 o0_3, LV.int .i64 o0_4]], pushed := false } μ
noncomputable def G81_13 (ρ : Rho) (x6 : List UInt8) (x7 : Int) (o0_0 : Int) (o0_1 : Int) (o0_2 : List UInt8) (o0_3 : Int) (o0_4 : Int) (μ : Mu) : Option St := ρ.seg H81 [(0, 0), (4, 0), (5, 0), (6, 0), (7, 0)] (codeAt E.P 81 [1, 1, 1, 0, 1, 0, 0, 1, 0, 0, 1, 1, 1])
 { fr := mkFr [(4, LV.loc 0 0), (6, LV.str x6), (7, LV.int .i64 x7)], lam := [Ob.cells [LV.int .i64 o0_0, LV.int .i64 o0_1, LV.str o0_2, LV.int .i64 o0_3, LV.int .i64 o0_4]], pushed := false } μ
def XG81_13_0 (o0_0 : Int) (o0_1 : Int) (o0_2 : List UInt8) (o0_3 : Int) (o0_4 : Int) (μ : Mu) : St := .ret { fr := mkFr [(4, LV.loc 0 0)], lam := [Ob.cells [LV.int .i64 o0_0, LV.int .i64 o0_1, LV.str o0_2, LV.int .i64 o0_3, LV.int .i64 o0_4]], pushed := false } μ
def XG81_13_1 (pv : CV) (μ : Mu) : St := .panic pv { fr := mkFr [], lam := [], pushed := false } μ
def XG81_8_1 (o0_0 : Int) (o0_1 : Int) (o0_2 : List UInt8) (o0_3 : Int) (o0_4 : Int) (μ : Mu) : St := .ret { fr := mkFr [(4, LV.loc 0 0)], lam := [Ob.cells [LV.int .i64 o0_0, LV.int .i64 o0_1, LV.str o0_2, LV.int .i64 o0_3, LV.int .i64 o0_4]], pushed := false } μ
def XL81_4_0 (o0_0 : Int) (o0_1 : Int) (o0_2 : List UInt8) (o0_3 : Int) (o0_4 : Int) (μ : Mu) : St := .ret { fr := mkFr [(4, LV.loc 0 0)], lam := [Ob.cells [LV.int .i64 o0_0, LV.int .i64 o0_1, LV.str o0_2, LV.int .i64 o0_3, LV.int .i64 o0_4]], pushed := false } μ
def XL81_4_2 (o0_0 : Int) (o0_1 : Int) (o0_2 : List UInt8) (o0_3 : Int) (o0_4 : Int) (μ : Mu) : St := .exit 0 { fr := mkFr [(4, LV.loc 0 0)], lam := [Ob.cells [LV.int .i64 o0_0, LV.int .i64 o0_1, LV.str o0_2, LV.int .i64 o0_3, LV.int .i64 o0_4]], pushed := false } μ
theorem nfG81_13 (ρ : Rho) (x6 : List UInt8) (x7 : Int) (o0_0 : Int) (o0_1 : Int) (o0_2 : List UInt8) (o0_3 : Int) (o0_4 : Int) (μ : Mu) : segK E.P ρ H81 [(0, 0), (4, 0), (5, 0), (6, 0), (7, 0)] (codeAt E.P 81 [1, 1, 1, 0, 1, 0, 0, 1, 0, 0, 1, 1, 1])
 { fr := mkFr [(4, LV.loc 0 0), (6, LV.str x6), (7, LV.int .i64 x7)], lam := [Ob.cells [LV.int .i64 o0_0, LV.int .i64 o0_1, LV.str o0_2, LV.int .i64 o0_3, LV.int .i64 o0_4]], pushed := false } μ =
 callK (ρ.call 42 [LV.str x6] μ) (fun v6 μ7 =>
 opt (getStr v6) fun s10 =>
 some (XG81_13_0 (1 : Int) (6 : Int) s10 (IntKind.wrap .i64 (x7 + (1 : Int))) (0 : Int) μ7)) (fun v9 μ8 =>
 some (XG81_13_1 v9 μ8)) := by kernel_rfl
theorem nfXG81_13_0 (ρ : Rho) (o0_0 : Int) (o0_1 : Int) (o0_2 : List UInt8) (o0_3 : Int) (o0_4 : Int) (μ : Mu) : runK E.P ρ H81 [] (XG81_13_0 o0_0 o0_1 o0_2 o0_3 o0_4 μ) (segEnd H81 [(0, 0), (4, 0), (5, 0), (6, 0), (7, 0)]) =
 some (XG81_11_0 o0_0 o0_1 o0_2 o0_3 o0_4 μ) := by kernel_rfl
theorem nfG81_11 (ρ : Rho) (x6 : List UInt8) (x7 : Int) (o0_0 : Int) (o0_1 : Int) (o0_2 : List UInt8) (o0_3 : Int) (o0_4 : Int) (μ : Mu) : segK E.P ρ H81 [(0, 0), (4, 0), (5, 0), (6, 0), (7, 0)] (codeAt E.P 81 [1, 1, 1, 0, 1, 0, 0, 1, 0, 0, 1, 1])
 { fr := mkFr [(4, LV.loc 0 0), (6, LV.str x6), (7, LV.int .i64 x7)], lam := [Ob.cells [LV.int .i64 o0_0, LV.int .i64 o0_1, LV.str o0_2, LV.int .i64 o0_3, LV.int .i64 o0_4]], pushed := false } μ =
 cond (decide ((60 : Int) < (List.length x6 : Int))) (
 some (XG81_11_0 (0 : Int) (0 : Int) ([] : List UInt8) (0 : Int) (8 : Int) μ)) (
 opt (G81_13 ρ x6 x7 o0_0 o0_1 o0_2 o0_3 o0_4 μ) fun st11 => runK E.P ρ H81 [] st11 (segEnd H81 [(0, 0), (4, 0), (5, 0), (6, 0), (7, 0)])) := by kernel_rfl
theorem nfXG81_11_0 (ρ : Rho) (o0_0 : Int) (o0_1 : Int) (o0_2 : List UInt8) (o0_3 : Int) (o0_4 : Int) (μ : Mu) : runK E.P ρ H81 [] (XG81_11_0 o0_0 o0_1 o0_2 o0_3 o0_4 μ) (segEnd H81 [(0, 0), (4, 0), (5, 0), (6, 0), (7, 0)]) =
 some (XG81_8_1 o0_0 o0_1 o0_2 o0_3 o0_4 μ) := by kernel_rfl
theorem nfG81_8 (ρ : Rho) (x0 : List UInt8) (x5 : Int) (x6 : List UInt8) (x7 : Int) (o0_0 : Int) (o0_1 : Int) (o0_2 : List UInt8) (o0_3 : Int) (o0_4 : Int) (μ : Mu) : segK E.P ρ H81 [(0, 0), (4, 0), (5, 0), (6, 0), (7, 0)] (codeAt E.P 81 [1, 1, 1, 0, 1, 0, 0, 1, 0, 0, 1])
 { fr := mkFr [(0, LV.str x0), (4, LV.loc 0 0), (5, LV.int .u8 x5), (6, LV.str x6), (7, LV.int .i64 x7)], lam := [Ob.cells [LV.int .i64 o0_0, LV.int .i64 o0_1, LV.str o0_2, LV.int .i64 o0_3, LV.int .i64 o0_4]], pushed := false } μ =
 cond (decide (IntKind.wrap .i64 (x7 + (1 : Int)) < (List.length x0 : Int))) (
 opt (strAt x0 (IntKind.wrap .i64 (x7 + (1 : Int)))) fun y4 =>
 cond (decide ((y4.toNat : Int) = x5)) (
 opt (cutA x0 x7 (IntKind.wrap .i64 (x7 + (1 : Int)))) fun s5 =>
 guardB (small (List.length x6 + List.length s5)) (
 some (XG81_8_0 x0 x5 (x6 ++ s5) (IntKind.wrap .i64 (x7 + (1 : Int))) o0_0 o0_1 o0_2 o0_3 o0_4 μ))) (
 opt (G81_11 ρ x6 x7 o0_0 o0_1 o0_2 o0_3 o0_4 μ) fun st12 => runK E.P ρ H81 [] st12 (segEnd H81 [(0, 0), (4, 0), (5, 0), (6, 0), (7, 0)]))) (
 opt (G81_11 ρ x6 x7 o0_0 o0_1 o0_2 o0_3 o0_4 μ) fun st13 => runK E.P ρ H81 [] st13 (segEnd H81 [(0, 0), (4, 0), (5, 0), (6, 0), (7, 0)])) := by kernel_rfl
theorem nfXG81_8_0 (ρ : Rho) (x0 : List UInt8) (x5 : Int) (x6 : List UInt8) (x7 : Int) (o0_0 : Int) (o0_1 : Int) (o0_2 : List UInt8) (o0_3 : Int) (o0_4 : Int) (μ : Mu) : runK E.P ρ H81 [.block 1, .seq (codeAt E.P 81 [1, 1, 1, 0, 1, 0, 0, 1, 1])] (XG81_8_0 x0 x5 x6 x7 o0_0 o0_1 o0_2 o0_3 o0_4 μ) (roundEnd E.P ρ H81 [(4, 0)] (codeAt E.P 81 [1, 1, 1, 0, 1, 0, 0])) =
 L81_4 ρ x0 x5 x6 (IntKind.wrap .i64 (x7 + (1 : Int))) o0_0 o0_1 o0_2 o0_3 o0_4 μ := by kernel_rfl
theorem nfXG81_8_1 (ρ : Rho) (o0_0 : Int) (o0_1 : Int) (o0_2 : List UInt8) (o0_3 : Int) (o0_4 : Int) (μ : Mu) : runK E.P ρ H81 [.block 1, .seq (codeAt E.P 81 [1, 1, 1, 0, 1, 0, 0, 1, 1])] (XG81_8_1 o0_0 o0_1 o0_2 o0_3 o0_4 μ) (roundEnd E.P ρ H81 [(4, 0)] (codeAt E.P 81 [1, 1, 1, 0, 1, 0, 0])) =
 some (XL81_4_0 o0_0 o0_1 o0_2 o0_3 o0_4 μ) := by kernel_rfl
theorem nfL81_4 (ρ : Rho) (x0 : List UInt8) (x5 : Int) (x6 : List UInt8) (x7 : Int) (o0_0 : Int) (o0_1 : Int) (o0_2 : List UInt8) (o0_3 : Int) (o0_4 : Int) (μ : Mu) : roundK E.P ρ H81 [(4, 0)] (codeAt E.P 81 [1, 1, 1, 0, 1, 0, 0])
 { fr := mkFr [(0, LV.str x0), (4, LV.loc 0 0), (5, LV.int .u8 x5), (6, LV.str x6), (7, LV.int .i64 x7)], lam := [Ob.cells [LV.int .i64 o0_0, LV.int .i64 o0_1, LV.str o0_2, LV.int .i64 o0_3, LV.int .i64 o0_4]], pushed := false } μ =
 cond (decide (x7 < (List.length x0 : Int))) (
 opt (strAt x0 x7) fun y2 =>
 cond (!decide ((y2.toNat : Int) = x5)) (
 opt (cutA x0 x7 (IntKind.wrap .i64 (x7 + (1 : Int)))) fun s3 =>
 guardB (small (List.length x6 + List.length s3)) (
 L81_4 ρ x0 x5 (x6 ++ s3) (IntKind.wrap .i64 (x7 + (1 : Int))) o0_0 o0_1 o0_2 o0_3 o0_4 μ)) (
 opt (G81_8 ρ x0 x5 x6 x7 o0_0 o0_1 o0_2 o0_3 o0_4 μ) fun st14 => runK E.P ρ H81 [.block 1, .seq (codeAt E.P 81 [1, 1, 1, 0, 1, 0, 0, 1, 1])] st14 (roundEnd E.P ρ H81 [(4, 0)] (codeAt E.P 81 [1, 1, 1, 0, 1, 0, 0])))) (
 some (XL81_4_2 o0_0 o0_1 o0_2 o0_3 o0_4 μ)) := by kernel_rfl
theorem nfXL81_4_0 (ρ : Rho) (o0_0 : Int) (o0_1 : Int) (o0_2 : List UInt8) (o0_3 : Int) (o0_4 : Int) (μ : Mu) : runK E.P ρ H81 [.block 0, .seq (codeAt E.P 81 [1, 1, 1, 1])] (XL81_4_0 o0_0 o0_1 o0_2 o0_3 o0_4 μ) (bodyEnd E.P (resOf E.P 81)) =
 some (.ret (LV.cv (CV.agg [CV.int .i64 o0_0, CV.int .i64 o0_1, CV.str o0_2, CV.int .i64 o0_3, CV.int .i64 o0_4])) μ) := by kernel_rfl
theorem nfXL81_4_2 (ρ : Rho) (o0_0 : Int) (o0_1 : Int) (o0_2 : List UInt8) (o0_3 : Int) (o0_4 : Int) (μ : Mu) : runK E.P ρ H81 [.block 0, .seq (codeAt E.P 81 [1, 1, 1, 1])] (XL81_4_2 o0_0 o0_1 o0_2 o0_3 o0_4 μ) (bodyEnd E.P (resOf E.P 81)) =
 some (.ret (LV.cv (CV.agg [CV.int .i64 (0 : Int), CV.int .i64 (0 : Int), CV.str ([] : List UInt8), CV.int .i64 (0 : Int), CV.int .i64 (7 : Int)])) μ) := by kernel_rfl
theorem nf81 (ρ : Rho) (a : List UInt8) (b : Int) (μ : Mu) : callStep E ρ 81 [LV.str a, LV.int .i64 b] μ =
 opt (strAt a b) fun y1 =>
 opt (L81_4 ρ a (y1.toNat : Int) ([] : List UInt8) (IntKind.wrap .i64 (b + (1 : Int))) (0 : Int) (0 : Int) ([] : List UInt8) (0 : Int) (0 : Int) μ) fun st15 => runK E.P ρ H81 [.block 0, .seq (codeAt E.P 81 [1, 1, 1, 1])] st15 (bodyEnd E.P (resOf E.P 81)) := by kernel_rfl
theorem nf85 (ρ : Rho) (a : List UInt8) (μ : Mu) : callStep E ρ 85 [LV.str a] μ =
 callK (ρ.call 43 [LV.str a, LV.cv (CV.clo 122 [])] μ) (fun v1 μ2 =>
 opt (getBool v1) fun b5 =>
 some (.ret (LV.bool (!b5)) μ2)) (fun v4 μ3 =>
 guardB (below (List.length μ3) v4) (some (.panic v4 μ3))) := by kernel_rfl
theorem nf86 (ρ : Rho) (a : List UInt8) (μ : Mu) : callStep E ρ 86 [LV.str a] μ =
 callK (ρ.call 84 [LV.str a, LV.str ([39] : List UInt8), LV.str ([39, 39] : List UInt8)] μ) (fun v1 μ2 =>
 opt (getStr v1) fun s5 =>
 guardB (small (List.length ([39] : List UInt8) + List.length s5)) (
 guardB (small (List.length (([39] : List UInt8) ++ s5) + List.length ([39] : List UInt8))) (
 some (.ret (LV.cv (CV.agg [CV.int .i64 (1 : Int), CV.int .i64 (6 : Int), CV.str ((([39] : List UInt8) ++ s5) ++ ([39] : List UInt8))])) μ2)))) (fun v4 μ3 =>
 guardB (below (List.length μ3) v4) (some (.panic v4 μ3))) := by kernel_rfl
theorem nf90 (ρ : Rho) (a : Int) (μ : Mu) : callStep E ρ 90 [LV.int .u8 a] μ =
 cond (decide ((97 : Int) ≤ a)) (
 cond (decide (a ≤ (122 : Int))) (
 some (.ret (LV.bool true) μ)) (
 cond (decide ((65 : Int) ≤ a)) (
 some (.ret (LV.bool (decide (a ≤ (90 : Int)))) μ)) (
 some (.ret (LV.bool false) μ)))) (
 cond (decide ((65 : Int) ≤ a)) (
 some (.ret (LV.bool (decide (a ≤ (90 : Int)))) μ)) (
 some (.ret (LV.bool false) μ))) := by kernel_rfl
theorem nf93 (ρ : Rho) (a : Int) (μ : Mu) : callStep E ρ 93 [LV.int .u8 a] μ =
 callK (ρ.call 90 [LV.int .u8 a] μ) (fun v1 μ2 =>
 opt (getBool v1) fun b5 =>
 cond (b5) (
 some (.ret (LV.bool true) μ2)) (
 callK (ρ.call 132 [LV.int .u8 a] μ2) (fun v6 μ7 =>
 opt (getBool v6) fun b10 =>
 cond (b10) (
 some (.ret (LV.bool true) μ7)) (
 some (.ret (LV.bool (decide (a = (95 : Int)))) μ7))) (fun v9 μ8 =>
 guardB (below (List.length μ8) v9) (some (.panic v9 μ8))))) (fun v4 μ3 =>
 guardB (below (List.length μ3) v4) (some (.panic v4 μ3))) := by kernel_rfl
noncomputable def L94_2 (ρ : Rho) (x0 : List CV) (x1 : List UInt8) (x7 : Int) (x8 : Int) (μ : Mu) : Option St := ρ.loop H94 [] (codeAt E.P 94 [1, 0, 1, 0, 0])
 { fr := mkFr [(0, LV.cv (CV.sl x0)), (1, LV.str x1), (7, LV.int .i64 x7), (8, LV.int .i64 x8)], lam := [], pushed := false } μ
def XL94_2_0 (x4 : Int) (μ : Mu) : St := .ret { fr := mkFr [(4, LV.int .i64 x4)], lam := [], pushed := false } μ
def XL94_2_1 (μ : Mu) : St := .exit 0 { fr := mkFr [], lam := [], pushed := false } μ
theorem nfL94_2 (ρ : Rho) (x0 : List CV) (x1 : List UInt8) (x7 : Int) (x8 : Int) (μ : Mu) : roundK E.P ρ H94 [] (codeAt E.P 94 [1, 0, 1, 0, 0])
 { fr := mkFr [(0, LV.cv (CV.sl x0)), (1, LV.str x1), (7, LV.int .i64 x7), (8, LV.int .i64 x8)], lam := [], pushed := false } μ =
 cond (decide (x8 < x7)) (
 opt (slAt x0 x8) fun c1 =>
 opt (getStr (LV.cv c1)) fun s2 =>
 cond (decide (x1 = s2)) (
 some (XL94_2_0 x8 μ)) (
 L94_2 ρ x0 x1 x7 (IntKind.wrap .i64 (x8 + (1 : Int))) μ)) (
 some (XL94_2_1 μ)) := by kernel_rfl
theorem nfXL94_2_0 (ρ : Rho) (x4 : Int) (μ : Mu) : runK E.P ρ H94 [.block 0, .seq (codeAt E.P 94 [1, 1])] (XL94_2_0 x4 μ) (bodyEnd E.P (resOf E.P 94)) =
 some (.ret (LV.int .i64 x4) μ) := by kernel_rfl
theorem nfXL94_2_1 (ρ : Rho) (μ : Mu) : runK E.P ρ H94 [.block 0, .seq (codeAt E.P 94 [1, 1])] (XL94_2_1 μ) (bodyEnd E.P (resOf E.P 94)) =
 some (.ret (LV.int .i64 (-1 : Int)) μ) := by kernel_rfl
theorem nf94 (ρ : Rho) (a : List CV) (b : List UInt8) (μ : Mu) : callStep E ρ 94 [LV.cv (CV.sl a), LV.str b] μ =
 opt (L94_2 ρ a b (List.length a : Int) (0 : Int) μ) fun st3 => runK E.P ρ H94 [.block 0, .seq (codeAt E.P 94 [1, 1])] st3 (bodyEnd E.P (resOf E.P 94)) := by kernel_rfl
theorem nf96 (ρ : Rho) (a : Int) (μ : Mu) : callStep E ρ 96 [LV.int .u8 a] μ =
 cond (decide ((65 : Int) ≤ a)) (
 cond (decide (a ≤ (90 : Int))) (
 some (.ret (LV.bool true) μ)) (
 cond (decide ((97 : Int) ≤ a)) (
 some (.ret (LV.bool (decide (a ≤ (122 : Int)))) μ)) (
 some (.ret (LV.bool false) μ)))) (
 cond (decide ((97 : Int) ≤ a)) (
 some (.ret (LV.bool (decide (a ≤ (122 : Int)))) μ)) (
 some (.ret (LV.bool false) μ))) := by kernel_rfl
noncomputable def L97_3 (ρ : Rho) (x3 : Nat) (x4 : Int) (o0 : List CV) (μ : Mu) : Option St := ρ.loop H97 [(3, 0)] (codeAt E.P 97 [1, 1, 0, 1, 0, 0])
 { fr := mkFr [(3, LV.lsl 0 0 x3), (4, LV.int .i64 x4)], lam := [Ob.arr 1 o0], pushed := false } μ
def XL97_3_0 (x3 : Nat) (o0 : List CV) (μ : Mu) : St := .exit 0 { fr := mkFr [(3, LV.lsl 0 0 x3)], lam := [Ob.arr 1 o0], pushed := false } μ
theorem nfL97_3 (ρ : Rho) (x3 : Nat) (x4 : Int) (o0 : List CV) (μ : Mu) : roundK E.P ρ H97 [(3, 0)] (codeAt E.P 97 [1, 1, 0, 1, 0, 0])
 { fr := mkFr [(3, LV.lsl 0 0 x3), (4, LV.int .i64 x4)], lam := [Ob.arr 1 o0], pushed := false } μ =
 cond (decide (x4 < (x3 : Int))) (
 guardB (inRange x4 x3) (
 opt (obRead E.P 5 (Ob.arr 1 o0) (0 + (x4).toNat * 1)) fun v1 =>
 opt (getInt .u8 v1) fun n2 =>
 cond (decide ((97 : Int) ≤ n2)) (
 guardB (inRange x4 x3) (
 opt (obRead E.P 5 (Ob.arr 1 o0) (0 + (x4).toNat * 1)) fun v3 =>
 opt (getInt .u8 v3) fun n4 =>
 cond (decide (n4 ≤ (122 : Int))) (
 guardB (inRange x4 x3) (
 opt (obRead E.P 5 (Ob.arr 1 o0) (0 + (x4).toNat * 1)) fun v5 =>
 opt (getInt .u8 v5) fun n6 =>
 guardB (inRange x4 x3) (
 guardB (elemOK 1 (CV.int .u8 (IntKind.wrap .u8 (IntKind.wrap .u8 (n6 - (97 : Int)) + (65 : Int)))) && Nat.ble (0 + (x4).toNat * 1 + 1) (List.length o0)) (
 L97_3 ρ x3 (IntKind.wrap .i64 (x4 + (1 : Int))) (setRange o0 (0 + (x4).toNat * 1) (CV.cells (CV.int .u8 (IntKind.wrap .u8 (IntKind.wrap .u8 (n6 - (97 : Int)) + (65 : Int)))))) μ)))) (
 L97_3 ρ x3 (IntKind.wrap .i64 (x4 + (1 : Int))) o0 μ))) (
 L97_3 ρ x3 (IntKind.wrap .i64 (x4 + (1 : Int))) o0 μ))) (
 some (XL97_3_0 x3 o0 μ)) := by kernel_rfl
theorem nfXL97_3_0 (ρ : Rho) (x3 : Nat) (o0 : List CV) (μ : Mu) : runK E.P ρ H97 [.block 0, .seq (codeAt E.P 97 [1, 1, 1])] (XL97_3_0 x3 o0 μ) (bodyEnd E.P (resOf E.P 97)) =
 guardB (Nat.ble (0 + x3) (List.length o0)) (
 opt (byteCells (List.take x3 (List.drop 0 o0))) fun s7 =>
 some (.ret (LV.str s7) μ)) := by kernel_rfl
theorem nf97 (ρ : Rho) (a : List UInt8) (μ : Mu) : callStep E ρ 97 [LV.str a] μ =
 guardB (small (List.length a)) (
 opt (L97_3 ρ (List.length a) (0 : Int) (bytesCV a) μ) fun st8 => runK E.P ρ H97 [.block 0, .seq (codeAt E.P 97 [1, 1, 1])] st8 (bodyEnd E.P (resOf E.P 97))) := by kernel_rfl
noncomputable def L98_5 (ρ : Rho) (x0 : List UInt8) (x1 : Int) (x5 : Int) (x6 : Int) (x7 : Bool) (x30 : List CV) (x31 : Int) (x32 : Int) (o0_0 : Int) (o0_1 : Int) (o0_2 : List UInt8) (o0_3 : Int) (o0_4 : Int) (μ : Mu) : Option St := ρ.loop H98 [(0, 0), (1, 0), (4, 0), (5, 0), (6, 0), (7, 0)] (codeAt E.P 98 [1, 1, 1, 1, 0, 1, 0, 0])
 { fr := mkFr [(0, LV.str x0), (1, LV.int .i64 x1), (4, LV.loc 0 0), (5, LV.int .i64 x5), (6, LV.int .i64 x6), (7, LV.bool x7), (30, LV.cv (CV.sl x30)), (31, LV.int .i64 x31), (32, LV.int .i64 x32)], lam := [Ob.cells [LV.int .i64 o0_0, LV.int .i64 o0_1, LV.str o0_2, LV.int .i64 o0_3, LV.int .i64 o0_4]], pushed := false } μ
def XL98_5_0 (pv : CV) (μ : Mu) : St := .panic pv { fr := mkFr [], lam := [], pushed := false } μ
def XL98_5_1 (x0 : List UInt8) (x1 : Int) (x5 : Int) (x6 : Int) (x7 : Bool) (o0_0 : Int) (o0_1 : Int) (o0_2 : List UInt8) (o0_3 : Int) (o0_4 : Int) (μ : Mu) : St := .exit 0 { fr := mkFr [(0, LV.str x0), (1, LV.int .i64 x1), (4, LV.loc 0 0), (5, LV.int .i64 x5), (6, LV.int .i64 x6), (7, LV.bool x7)], lam := [Ob.cells [LV.int .i64 o0_0, LV.int .i64 o0_1, LV.str o0_2, LV.int .i64 o0_3, LV.int .i64 o0_4]], pushed := false } μ
noncomputable def G98_14 (ρ : Rho) (x0 : List UInt8) (x1 : Int) (x5 : Int) (x6 : Int) (x7 : Bool) (x10 : Bool) (x11 : Int) (o0_0 : Int) (o0_1 : Int) (o0_2 : List UInt8) (o0_3 : Int) (o0_4 : Int) (μ : Mu) : Option St := ρ.seg H98 [(4, 0)] (codeAt E.P 98 [1, 1, 1, 1, 1, 1, 1])
 { fr := mkFr [(0, LV.str x0), (1, LV.int .i64 x1), (4, LV.loc 0 0), (5, LV.int .i64 x5), (6, LV.int .i64 x6), (7, LV.bool x7), (10, LV.bool x10), (11, LV.int .i64 x11)], lam := [Ob.cells [LV.int .i64 o0_0, LV.int .i64 o0_1, LV.str o0_2, LV.int .i64 o0_3, LV.int .i64 o0_4]], pushed := false } μ
noncomputable def G98_20 (ρ : Rho) (x0 : List UInt8) (x1 : Int) (x5 : Int) (x6 : Int) (x10 : Bool) (x11 : Int) (x12 : Int) (x13 : Int) (x14 : Bool) (x15 : Int) (o0_0 : Int) (o0_1 : Int) (o0_2 : List UInt8) (o0_3 : Int) (o0_4 : Int) (μ : Mu) : Option St := ρ.seg H98 [(0, 0), (1, 0), (4, 0), (5, 0), (6, 0), (10, 0), (11, 0), (12, 0), (13, 0), (14, 0)] (codeAt E.P 98 [1, 1, 1, 1, 1, 1, 1, 1, 1, 0, 1, 0, 1, 1])
 { fr := mkFr [(0, LV.str x0), (1, LV.int .i64 x1), (4, LV.loc 0 0), (5, LV.int .i64 x5), (6, LV.int .i64 x6), (10, LV.bool x10), (11, LV.int .i64 x11), (12, LV.int .i64 x12), (13, LV.int .i64 x13), (14, LV.bool x14), (15, LV.int .i64 x15)], lam := [Ob.cells [LV.int .i64 o0_0, LV.int .i64 o0_1, LV.str o0_2, LV.int .i64 o0_3, LV.int .i64 o0_4]], pushed := false } μ
def XG98_20_0 (o0_0 : Int) (o0_1 : Int) (o0_2 : List UInt8) (o0_3 : Int) (o0_4 : Int) (μ : Mu) : St := .ret { fr := mkFr [(4, LV.loc 0 0)], lam := [Ob.cells [LV.int .i64 o0_0, LV.int .i64 o0_1, LV.str o0_2, LV.int .i64 o0_3, LV.int .i64 o0_4]], pushed := false } μ
noncomputable def G98_24 (ρ : Rho) (x0 : List UInt8) (x1 : Int) (x5 : Int) (x6 : Int) (x10 : Bool) (x11 : Int) (x12 : Int) (x15 : Int) (x16 : Int) (o0_0 : Int) (o0_1 : Int) (o0_2 : List UInt8) (o0_3 : Int) (o0_4 : Int) (μ : Mu) : Option St := ρ.seg H98 [(0, 0), (1, 0), (4, 0), (5, 0), (6, 0), (10, 0), (11, 0), (12, 0), (13, 0), (14, 0)] (codeAt E.P 98 [1, 1, 1, 1, 1, 1, 1, 1, 1, 0, 1, 0, 1, 1, 1, 1, 0, 1])
 { fr := mkFr [(0, LV.str x0), (1, LV.int .i64 x1), (4, LV.loc 0 0), (5, LV.int .i64 x5), (6, LV.int .i64 x6), (10, LV.bool x10), (11, LV.int .i64 x11), (12, LV.int .i64 x12), (15, LV.int .i64 x15), (16, LV.int .i64 x16)], lam := [Ob.cells [LV.int .i64 o0_0, LV.int .i64 o0_1, LV.str o0_2, LV.int .i64 o0_3, LV.int .i64 o0_4]], pushed := false } μ
noncomputable def G98_28 (ρ : Rho) (x0 : List UInt8) (x1 : Int) (x5 : Int) (x6 : Int) (x10 : Bool) (x11 : Int) (x12 : Int) (x13 : Int) (x14 : Bool) (x15 : Int) (x16 : Int) (o0_0 : Int) (o0_1 : Int) (o0_2 : List UInt8) (o0_3 : Int) (o0_4 : Int) (μ : Mu) : Option St := ρ.seg H98 [(0, 0), (1, 0), (4, 0), (5, 0), (6, 0), (10, 0), (11, 0), (12, 0), (13, 0), (14, 0)] (codeAt E.P 98 [1, 1, 1, 1, 1, 1, 1, 1, 1, 0, 1, 0, 1, 1, 1, 1, 0, 1, 1, 1, 1])
 { fr := mkFr [(0, LV.str x0), (1, LV.int .i64 x1), (4, LV.loc 0 0), (5, LV.int .i64 x5), (6, LV.int .i64 x6), (10, LV.bool x10), (11, LV.int .i64 x11), (12, LV.int .i64 x12), (13, LV.int .i64 x13), (14, LV.bool x14), (15, LV.int .i64 x15), (16, LV.int .i64 x16)], lam := [Ob.cells [LV.int .i64 o0_0, LV.int .i64 o0_1, LV.str o0_2, LV.int .i64 o0_3, LV.int .i64 o0_4]], pushed := false } μ
def XG98_28_0 (x0 : List UInt8) (x1 : Int) (x5 : Int) (x6 : Int) (x10 : Bool) (x11 : Int) (x12 : Int) (x13 : Int) (x14 : Bool) (o0_0 : Int) (o0_1 : Int) (o0_2 : List UInt8) (o0_3 : Int) (o0_4 : Int) (μ : Mu) : St := .norm { fr := mkFr [(0, LV.str x0), (1, LV.int .i64 x1), (4, LV.loc 0 0), (5, LV.int .i64 x5), (6, LV.int .i64 x6), (10, LV.bool x10), (11, LV.int .i64 x11), (12, LV.int .i64 x12), (13, LV.int .i64 x13), (14, LV.bool x14)], lam := [Ob.cells [LV.int .i64 o0_0, LV.int .i64 o0_1, LV.str o0_2, LV.int .i64 o0_3, LV.int .i64 o0_4]], pushed := false } μ
def XG98_24_0 (x0 : List UInt8) (x1 : Int) (x5 : Int) (x6 : Int) (x10 : Bool) (x11 : Int) (x12 : Int) (x13 : Int) (x14 : Bool) (o0_0 : Int) (o0_1 : Int) (o0_2 : List UInt8) (o0_3 : Int) (o0_4 : Int) (μ : Mu) : St := .norm { fr := mkFr [(0, LV.str x0), (1, LV.int .i64 x1), (4, LV.loc 0 0), (5, LV.int .i64 x5), (6, LV.int .i64 x6), (10, LV.bool x10), (11, LV.int .i64 x11), (12, LV.int .i64 x12), (13, LV.int .i64 x13), (14, LV.bool x14)], lam := [Ob.cells [LV.int .i64 o0_0, LV.int .i64 o0_1, LV.str o0_2, LV.int .i64 o0_3, LV.int .i64 o0_4]], pushed := false } μ
def XG98_24_1 (pv : CV) (μ : Mu) : St := .panic pv { fr := mkFr [], lam := [], pushed := false } μ
def XG98_20_1 (x0 : List UInt8) (x1 : Int) (x5 : Int) (x6 : Int) (x10 : Bool) (x11 : Int) (x12 : Int) (x13 : Int) (x14 : Bool) (o0_0 : Int) (o0_1 : Int) (o0_2 : List UInt8) (o0_3 : Int) (o0_4 : Int) (μ : Mu) : St := .norm { fr := mkFr [(0, LV.str x0), (1, LV.int .i64 x1), (4, LV.loc 0 0), (5, LV.int .i64 x5), (6, LV.int .i64 x6), (10, LV.bool x10), (11, LV.int .i64 x11), (12, LV.int .i64 x12), (13, LV.int .i64 x13), (14, LV.bool x14)], lam := [Ob.cells [LV.int .i64 o0_0, LV.int .i64 o0_1, LV.str o0_2, LV.int .i64 o0_3, LV.int .i64 o0_4]], pushed := false } μ
def XG98_20_2 (pv : CV) (μ : Mu) : St := .panic pv { fr := mkFr [], lam := [], pushed := false } μ
def XG98_14_0 (o0_0 : Int) (o0_1 : Int) (o0_2 : List UInt8) (o0_3 : Int) (o0_4 : Int) (μ : Mu) : St := .ret { fr := mkFr [(4, LV.loc 0 0)], lam := [Ob.cells [LV.int .i64 o0_0, LV.int .i64 o0_1, LV.str o0_2, LV.int .i64 o0_3, LV.int .i64 o0_4]], pushed := false } μ
noncomputable def G98_31 (ρ : Rho) (x0 : List UInt8) (x1 : Int) (x5 : Int) (x6 : Int) (x10 : Bool) (x11 : Int) (x12 : Int) (x13 : Int) (x14 : Bool) (o0_0 : Int) (o0_1 : Int) (o0_2 : List UInt8) (o0_3 : Int) (o0_4 : Int) (μ : Mu) : Option St := ρ.seg H98 [(4, 0)] (codeAt E.P 98 [1, 1, 1, 1, 1, 1, 1, 1, 1, 1])
 { fr := mkFr [(0, LV.str x0), (1, LV.int .i64 x1), (4, LV.loc 0 0), (5, LV.int .i64 x5), (6, LV.int .i64 x6), (10, LV.bool x10), (11, LV.int .i64 x11), (12, LV.int .i64 x12), (13, LV.int .i64 x13), (14, LV.bool x14)], lam := [Ob.cells [LV.int .i64 o0_0, LV.int .i64 o0_1, LV.str o0_2, LV.int .i64 o0_3, LV.int .i64 o0_4]], pushed := false } μ
def XG98_31_0 (o0_0 : Int) (o0_1 : Int) (o0_2 : List UInt8) (o0_3 : Int) (o0_4 : Int) (μ : Mu) : St := .ret { fr := mkFr [(4, LV.loc 0 0)], lam := [Ob.cells [LV.int .i64 o0_0, LV.int .i64 o0_1, LV.str o0_2, LV.int .i64 o0_3, LV.int .i64 o0_4]], pushed := false } μ
noncomputable def G98_34 (ρ : Rho) (x0 : List UInt8) (x1 : Int) (x5 : Int) (x6 : Int) (o0_0 : Int) (o0_1 : Int) (o0_2 : List UInt8) (o0_3 : Int) (o0_4 : Int) (μ : Mu) : Option St := ρ.seg H98 [(0, 0), (1, 0), (4, 0), (5, 0), (6, 0), (10, 0), (11, 0), (12, 0), (13, 0)] (codeAt E.P 98 [1, 1, 1, 1, 1, 1, 1, 1, 1, 1, 0, 1, 0, 1])
 { fr := mkFr [(0, LV.str x0), (1, LV.int .i64 x1), (4, LV.loc 0 0), (5, LV.int .i64 x5), (6, LV.int .i64 x6)], lam := [Ob.cells [LV.int .i64 o0_0, LV.int .i64 o0_1, LV.str o0_2, LV.int .i64 o0_3, LV.int .i64 o0_4]], pushed := false } μ
def XG98_34_0 (o0_0 : Int) (o0_1 : Int) (o0_2 : List UInt8) (o0_3 : Int) (o0_4 : Int) (μ : Mu) : St := .ret { fr := mkFr [(4, LV.loc 0 0)], lam := [Ob.cells [LV.int .i64 o0_0, LV.int .i64 o0_1, LV.str o0_2, LV.int .i64 o0_3, LV.int .i64 o0_4]], pushed := false } μ
def XG98_34_1 (pv : CV) (μ : Mu) : St := .panic pv { fr := mkFr [], lam := [], pushed := false } μ
noncomputable def G98_38 (ρ : Rho) (x0 : List UInt8) (x1 : Int) (x5 : Int) (x6 : Int) (x10 : Bool) (x11 : Int) (x12 : Int) (x13 : Int) (o0_0 : Int) (o0_1 : Int) (o0_2 : List UInt8) (o0_3 : Int) (o0_4 : Int) (μ : Mu) : Option St := ρ.seg H98 [(4, 0)] (codeAt E.P 98 [1, 1, 1, 1, 1, 1, 1, 1, 1, 1, 1])
 { fr := mkFr [(0, LV.str x0), (1, LV.int .i64 x1), (4, LV.loc 0 0), (5, LV.int .i64 x5), (6, LV.int .i64 x6), (10, LV.bool x10), (11, LV.int .i64 x11), (12, LV.int .i64 x12), (13, LV.int .i64 x13)], lam := [Ob.cells [LV.int .i64 o0_0, LV.int .i64 o0_1, LV.str o0_2, LV.int .i64 o0_3, LV.int .i64 o0_4]], pushed := false } μ
noncomputable def G98_41 (ρ : Rho) (x0 : List UInt8) (x1 : Int) (x5 : Int) (x6 : Int) (x12 : Int) (x13 : Int) (x18 : List UInt8) (o0_0 : Int) (o0_1 : Int) (o0_2 : List UInt8) (o0_3 : Int) (o0_4 : Int) (μ : Mu) : Option St := ρ.seg H98 [(4, 0)] (codeAt E.P 98 [1, 1, 1, 1, 1, 1, 1, 1, 1, 1, 1, 1, 1])
 { fr := mkFr [(0, LV.str x0), (1, LV.int .i64 x1), (4, LV.loc 0 0), (5, LV.int .i64 x5), (6, LV.int .i64 x6), (12, LV.int .i64 x12), (13, LV.int .i64 x13), (18, LV.str x18)], lam := [Ob.cells [LV.int .i64 o0_0, LV.int .i64 o0_1, LV.str o0_2, LV.int .i64 o0_3, LV.int .i64 o0_4]], pushed := false } μ
def XG98_41_0 (o0_0 : Int) (o0_1 : Int) (o0_2 : List UInt8) (o0_3 : Int) (o0_4 : Int) (μ : Mu) : St := .ret { fr := mkFr [(4, LV.loc 0 0)], lam := [Ob.cells [LV.int .i64 o0_0, LV.int .i64 o0_1, LV.str o0_2, LV.int .i64 o0_3, LV.int .i64 o0_4]], pushed := false } μ
noncomputable def G98_44 (ρ : Rho) (x6 : Int) (x12 : Int) (x13 : Int) (x19 : List UInt8) (x20 : List UInt8) (o0_0 : Int) (o0_1 : Int) (o0_2 : List UInt8) (o0_3 : Int) (o0_4 : Int) (μ : Mu) : Option St := ρ.seg H98 [(4, 0)] (codeAt E.P 98 [1, 1, 1, 1, 1, 1, 1, 1, 1, 1, 1, 1, 1, 1, 1])
 { fr := mkFr [(4, LV.loc 0 0), (6, LV.int .i64 x6), (12, LV.int .i64 x12), (13, LV.int .i64 x13), (19, LV.str x19), (20, LV.str x20)], lam := [Ob.cells [LV.int .i64 o0_0, LV.int .i64 o0_1, LV.str o0_2, LV.int .i64 o0_3, LV.int .i64 o0_4]], pushed := false } μ
def XG98_44_0 (o0_0 : Int) (o0_1 : Int) (o0_2 : List UInt8) (o0_3 : Int) (o0_4 : Int) (μ : Mu) : St := .ret { fr := mkFr [(4, LV.loc 0 0)], lam := [Ob.cells [LV.int .i64 o0_0, LV.int .i64 o0_1, LV.str o0_2, LV.int .i64 o0_3, LV.int .i64 o0_4]], pushed := false } μ
def XG98_44_1 (pv : CV) (μ : Mu) : St := .panic pv { fr := mkFr [], lam := [], pushed := false } μ
def XG98_41_1 (pv : CV) (μ : Mu) : St := .panic pv { fr := mkFr [], lam := [], pushed := false } μ
def XG98_38_0 (o0_0 : Int) (o0_1 : Int) (o0_2 : List UInt8) (o0_3 : Int) (o0_4 : Int) (μ : Mu) : St := .ret { fr := mkFr [(4, LV.loc 0 0)], lam := [Ob.cells [LV.int .i64 o0_0, LV.int .i64 o0_1, LV.str o0_2, LV.int .i64 o0_3, LV.int .i64 o0_4]], pushed := false } μ
theorem nfL98_5 (ρ : Rho) (x0 : List UInt8) (x1 : Int) (x5 : Int) (x6 : Int) (x7 : Bool) (x30 : List CV) (x31 : Int) (x32 : Int) (o0_0 : Int) (o0_1 : Int) (o0_2 : List UInt8) (o0_3 : Int) (o0_4 : Int) (μ : Mu) : roundK E.P ρ H98 [(0, 0), (1, 0), (4, 0), (5, 0), (6, 0), (7, 0)] (codeAt E.P 98 [1, 1, 1, 1, 0, 1, 0, 0])
 { fr := mkFr [(0, LV.str x0), (1, LV.int .i64 x1), (4, LV.loc 0 0), (5, LV.int .i64 x5), (6, LV.int .i64 x6), (7, LV.bool x7), (30, LV.cv (CV.sl x30)), (31, LV.int .i64 x31), (32, LV.int .i64 x32)], lam := [Ob.cells [LV.int .i64 o0_0, LV.int .i64 o0_1, LV.str o0_2, LV.int .i64 o0_3, LV.int .i64 o0_4]], pushed := false } μ =
 cond (decide (x32 < x31)) (
 opt (slAt x30 x32) fun c11 =>
 opt (getStr (LV.cv c11)) fun s12 =>
 cond (x7) (
 L98_5 ρ x0 x1 x5 x6 true x30 x31 (IntKind.wrap .i64 (x32 + (1 : Int))) o0_0 o0_1 o0_2 o0_3 o0_4 μ) (
 cond (decide ((0 : Int) < x5)) (
 callK (ρ.call 99 [LV.str x0, LV.int .i64 x6, LV.str s12] μ) (fun v13 μ14 =>
 opt (getBool v13) fun b17 =>
 L98_5 ρ x0 x1 x5 x6 b17 x30 x31 (IntKind.wrap .i64 (x32 + (1 : Int))) o0_0 o0_1 o0_2 o0_3 o0_4 μ14) (fun v16 μ15 =>
 some (XL98_5_0 v16 μ15))) (
 L98_5 ρ x0 x1 x5 x6 false x30 x31 (IntKind.wrap .i64 (x32 + (1 : Int))) o0_0 o0_1 o0_2 o0_3 o0_4 μ))) (
 some (XL98_5_1 x0 x1 x5 x6 x7 o0_0 o0_1 o0_2 o0_3 o0_4 μ)) := by kernel_rfl
theorem nfG98_28 (ρ : Rho) (x0 : List UInt8) (x1 : Int) (x5 : Int) (x6 : Int) (x10 : Bool) (x11 : Int) (x12 : Int) (x13 : Int) (x14 : Bool) (x15 : Int) (x16 : Int) (o0_0 : Int) (o0_1 : Int) (o0_2 : List UInt8) (o0_3 : Int) (o0_4 : Int) (μ : Mu) : segK E.P ρ H98 [(0, 0), (1, 0), (4, 0), (5, 0), (6, 0), (10, 0), (11, 0), (12, 0), (13, 0), (14, 0)] (codeAt E.P 98 [1, 1, 1, 1, 1, 1, 1, 1, 1, 0, 1, 0, 1, 1, 1, 1, 0, 1, 1, 1, 1])
 { fr := mkFr [(0, LV.str x0), (1, LV.int .i64 x1), (4, LV.loc 0 0), (5, LV.int .i64 x5), (6, LV.int .i64 x6), (10, LV.bool x10), (11, LV.int .i64 x11), (12, LV.int .i64 x12), (13, LV.int .i64 x13), (14, LV.bool x14), (15, LV.int .i64 x15), (16, LV.int .i64 x16)], lam := [Ob.cells [LV.int .i64 o0_0, LV.int .i64 o0_1, LV.str o0_2, LV.int .i64 o0_3, LV.int .i64 o0_4]], pushed := false } μ =
 opt (strAt x0 x6) fun y38 =>
 cond (decide ((y38.toNat : Int) = (68 : Int))) (
 some (XG98_28_0 x0 x1 x5 (IntKind.wrap .i64 (x15 + x16)) x10 x11 (2 : Int) x13 x14 o0_0 o0_1 o0_2 o0_3 o0_4 μ)) (
 opt (strAt x0 x6) fun y39 =>
 cond (decide ((y39.toNat : Int) = (100 : Int))) (
 some (XG98_28_0 x0 x1 x5 (IntKind.wrap .i64 (x15 + x16)) x10 x11 (2 : Int) x13 x14 o0_0 o0_1 o0_2 o0_3 o0_4 μ)) (
 some (XG98_28_0 x0 x1 x5 (IntKind.wrap .i64 (x15 + x16)) x10 x11 x12 x13 x14 o0_0 o0_1 o0_2 o0_3 o0_4 μ))) := by kernel_rfl
theorem nfXG98_28_0 (ρ : Rho) (x0 : List UInt8) (x1 : Int) (x5 : Int) (x6 : Int) (x10 : Bool) (x11 : Int) (x12 : Int) (x13 : Int) (x14 : Bool) (o0_0 : Int) (o0_1 : Int) (o0_2 : List UInt8) (o0_3 : Int) (o0_4 : Int) (μ : Mu) : runK E.P ρ H98 [] (XG98_28_0 x0 x1 x5 x6 x10 x11 x12 x13 x14 o0_0 o0_1 o0_2 o0_3 o0_4 μ) (segEnd H98 [(0, 0), (1, 0), (4, 0), (5, 0), (6, 0), (10, 0), (11, 0), (12, 0), (13, 0), (14, 0)]) =
 some (XG98_24_0 x0 x1 x5 x6 x10 x11 x12 x13 x14 o0_0 o0_1 o0_2 o0_3 o0_4 μ) := by kernel_rfl
theorem nfG98_24 (ρ : Rho) (x0 : List UInt8) (x1 : Int) (x5 : Int) (x6 : Int) (x10 : Bool) (x11 : Int) (x12 : Int) (x15 : Int) (x16 : Int) (o0_0 : Int) (o0_1 : Int) (o0_2 : List UInt8) (o0_3 : Int) (o0_4 : Int) (μ : Mu) : segK E.P ρ H98 [(0, 0), (1, 0), (4, 0), (5, 0), (6, 0), (10, 0), (11, 0), (12, 0), (13, 0), (14, 0)] (codeAt E.P 98 [1, 1, 1, 1, 1, 1, 1, 1, 1, 0, 1, 0, 1, 1, 1, 1, 0, 1])
 { fr := mkFr [(0, LV.str x0), (1, LV.int .i64 x1), (4, LV.loc 0 0), (5, LV.int .i64 x5), (6, LV.int .i64 x6), (10, LV.bool x10), (11, LV.int .i64 x11), (12, LV.int .i64 x12), (15, LV.int .i64 x15), (16, LV.int .i64 x16)], lam := [Ob.cells [LV.int .i64 o0_0, LV.int .i64 o0_1, LV.str o0_2, LV.int .i64 o0_3, LV.int .i64 o0_4]], pushed := false } μ =
 opt (cutA x0 x15 (IntKind.wrap .i64 (x15 + x16))) fun s31 =>
 callK (ρ.call 120 [LV.str s31] μ) (fun v32 μ33 =>
 opt (getInt .i64 v32) fun n36 =>
 opt (strAt x0 (IntKind.wrap .i64 (x15 - (1 : Int)))) fun y37 =>
 cond (decide ((y37.toNat : Int) = (45 : Int))) (
 opt (G98_28 ρ x0 x1 x5 x6 x10 x11 x12 (IntKind.wrap .i64 (0 - n36)) true x15 x16 o0_0 o0_1 o0_2 o0_3 o0_4 μ33) fun st40 => runK E.P ρ H98 [] st40 (segEnd H98 [(0, 0), (1, 0), (4, 0), (5, 0), (6, 0), (10, 0), (11, 0), (12, 0), (13, 0), (14, 0)])) (
 opt (G98_28 ρ x0 x1 x5 x6 x10 x11 x12 n36 true x15 x16 o0_0 o0_1 o0_2 o0_3 o0_4 μ33) fun st41 => runK E.P ρ H98 [] st41 (segEnd H98 [(0, 0), (1, 0), (4, 0), (5, 0), (6, 0), (10, 0), (11, 0), (12, 0), (13, 0), (14, 0)]))) (fun v35 μ34 =>
 some (XG98_24_1 v35 μ34)) := by kernel_rfl
theorem nfXG98_24_0 (ρ : Rho) (x0 : List UInt8) (x1 : Int) (x5 : Int) (x6 : Int) (x10 : Bool) (x11 : Int) (x12 : Int) (x13 : Int) (x14 : Bool) (o0_0 : Int) (o0_1 : Int) (o0_2 : List UInt8) (o0_3 : Int) (o0_4 : Int) (μ : Mu) : runK E.P ρ H98 [] (XG98_24_0 x0 x1 x5 x6 x10 x11 x12 x13 x14 o0_0 o0_1 o0_2 o0_3 o0_4 μ) (segEnd H98 [(0, 0), (1, 0), (4, 0), (5, 0), (6, 0), (10, 0), (11, 0), (12, 0), (13, 0), (14, 0)]) =
 some (XG98_20_1 x0 x1 x5 x6 x10 x11 x12 x13 x14 o0_0 o0_1 o0_2 o0_3 o0_4 μ) := by kernel_rfl
theorem nfG98_20 (ρ : Rho) (x0 : List UInt8) (x1 : Int) (x5 : Int) (x6 : Int) (x10 : Bool) (x11 : Int) (x12 : Int) (x13 : Int) (x14 : Bool) (x15 : Int) (o0_0 : Int) (o0_1 : Int) (o0_2 : List UInt8) (o0_3 : Int) (o0_4 : Int) (μ : Mu) : segK E.P ρ H98 [(0, 0), (1, 0), (4, 0), (5, 0), (6, 0), (10, 0), (11, 0), (12, 0), (13, 0), (14, 0)] (codeAt E.P 98 [1, 1, 1, 1, 1, 1, 1, 1, 1, 0, 1, 0, 1, 1])
 { fr := mkFr [(0, LV.str x0), (1, LV.int .i64 x1), (4, LV.loc 0 0), (5, LV.int .i64 x5), (6, LV.int .i64 x6), (10, LV.bool x10), (11, LV.int .i64 x11), (12, LV.int .i64 x12), (13, LV.int .i64 x13), (14, LV.bool x14), (15, LV.int .i64 x15)], lam := [Ob.cells [LV.int .i64 o0_0, LV.int .i64 o0_1, LV.str o0_2, LV.int .i64 o0_3, LV.int .i64 o0_4]], pushed := false } μ =
 callK (ρ.call 47 [LV.str x0, LV.int .i64 x15] μ) (fun v26 μ27 =>
 opt (getInt .i64 v26) fun n30 =>
 cond (decide ((0 : Int) < n30)) (
 cond (decide ((3 : Int) < n30)) (
 some (XG98_20_0 (0 : Int) (0 : Int) ([] : List UInt8) (0 : Int) (7 : Int) μ27)) (
 opt (G98_24 ρ x0 x1 x5 x6 x10 x11 x12 x15 n30 o0_0 o0_1 o0_2 o0_3 o0_4 μ27) fun st42 => runK E.P ρ H98 [] st42 (segEnd H98 [(0, 0), (1, 0), (4, 0), (5, 0), (6, 0), (10, 0), (11, 0), (12, 0), (13, 0), (14, 0)]))) (
 some (XG98_20_1 x0 x1 x5 x6 x10 x11 x12 x13 x14 o0_0 o0_1 o0_2 o0_3 o0_4 μ27))) (fun v29 μ28 =>
 some (XG98_20_2 v29 μ28)) := by kernel_rfl
theorem nfXG98_20_0 (ρ : Rho) (o0_0 : Int) (o0_1 : Int) (o0_2 : List UInt8) (o0_3 : Int) (o0_4 : Int) (μ : Mu) : runK E.P ρ H98 [.seq (codeAt E.P 98 [1, 1, 1, 1, 1, 1, 1, 1, 1, 1])] (XG98_20_0 o0_0 o0_1 o0_2 o0_3 o0_4 μ) (segEnd H98 [(4, 0)]) =
 some (XG98_14_0 o0_0 o0_1 o0_2 o0_3 o0_4 μ) := by kernel_rfl
theorem nfG98_34 (ρ : Rho) (x0 : List UInt8) (x1 : Int) (x5 : Int) (x6 : Int) (o0_0 : Int) (o0_1 : Int) (o0_2 : List UInt8) (o0_3 : Int) (o0_4 : Int) (μ : Mu) : segK E.P ρ H98 [(0, 0), (1, 0), (4, 0), (5, 0), (6, 0), (10, 0), (11, 0), (12, 0), (13, 0)] (codeAt E.P 98 [1, 1, 1, 1, 1, 1, 1, 1, 1, 1, 0, 1, 0, 1])
 { fr := mkFr [(0, LV.str x0), (1, LV.int .i64 x1), (4, LV.loc 0 0), (5, LV.int .i64 x5), (6, LV.int .i64 x6)], lam := [Ob.cells [LV.int .i64 o0_0, LV.int .i64 o0_1, LV.str o0_2, LV.int .i64 o0_3, LV.int .i64 o0_4]], pushed := false } μ =
 opt (cutA x0 x1 (IntKind.wrap .i64 (x1 + x5))) fun s43 =>
 callK (ρ.call 69 [LV.str s43] μ) (fun v44 μ45 =>
 opt (getStr v44) fun s48 =>
 cond (decide ((List.length s48 : Int) = (10 : Int))) (
 cond (!(Op.bytesLess s48 ([50, 49, 52, 55, 52, 56, 51, 54, 52, 55] : List UInt8) || decide (s48 = ([50, 49, 52, 55, 52, 56, 51, 54, 52, 55] : List UInt8)))) (
 some (XG98_34_0 (0 : Int) (0 : Int) ([] : List UInt8) (0 : Int) (28 : Int) μ45)) (
 some (XG98_34_0 (1 : Int) (0 : Int) s48 x6 (0 : Int) μ45))) (
 some (XG98_34_0 (1 : Int) (0 : Int) s48 x6 (0 : Int) μ45))) (fun v47 μ46 =>
 some (XG98_34_1 v47 μ46)) := by kernel_rfl
theorem nfXG98_34_0 (ρ : Rho) (o0_0 : Int) (o0_1 : Int) (o0_2 : List UInt8) (o0_3 : Int) (o0_4 : Int) (μ : Mu) : runK E.P ρ H98 [.seq (codeAt E.P 98 [1, 1, 1, 1, 1, 1, 1, 1, 1, 1, 1])] (XG98_34_0 o0_0 o0_1 o0_2 o0_3 o0_4 μ) (segEnd H98 [(4, 0)]) =
 some (XG98_31_0 o0_0 o0_1 o0_2 o0_3 o0_4 μ) := by kernel_rfl
theorem nfG98_44 (ρ : Rho) (x6 : Int) (x12 : Int) (x13 : Int) (x19 : List UInt8) (x20 : List UInt8) (o0_0 : Int) (o0_1 : Int) (o0_2 : List UInt8) (o0_3 : Int) (o0_4 : Int) (μ : Mu) : segK E.P ρ H98 [(4, 0)] (codeAt E.P 98 [1, 1, 1, 1, 1, 1, 1, 1, 1, 1, 1, 1, 1, 1, 1])
 { fr := mkFr [(4, LV.loc 0 0), (6, LV.int .i64 x6), (12, LV.int .i64 x12), (13, LV.int .i64 x13), (19, LV.str x19), (20, LV.str x20)], lam := [Ob.cells [LV.int .i64 o0_0, LV.int .i64 o0_1, LV.str o0_2, LV.int .i64 o0_3, LV.int .i64 o0_4]], pushed := false } μ =
 guardB (small (List.length x19 + List.length ([46] : List UInt8))) (
 guardB (small (List.length (x19 ++ ([46] : List UInt8)) + List.length x20)) (
 cond (decide (x12 = (2 : Int))) (
 guardB (small (List.length ((x19 ++ ([46] : List UInt8)) ++ x20) + List.length ([68] : List UInt8))) (
 callK (ρ.call 71 [LV.int .i64 x13] μ) (fun v82 μ83 =>
 opt (getStr v82) fun s86 =>
 guardB (small (List.length (((x19 ++ ([46] : List UInt8)) ++ x20) ++ ([68] : List UInt8)) + List.length s86)) (
 some (XG98_44_0 (1 : Int) x12 ((((x19 ++ ([46] : List UInt8)) ++ x20) ++ ([68] : List UInt8)) ++ s86) x6 (0 : Int) μ83))) (fun v85 μ84 =>
 some (XG98_44_1 v85 μ84)))) (
 cond (!decide (x13 = (0 : Int))) (
 guardB (small (List.length ((x19 ++ ([46] : List UInt8)) ++ x20) + List.length ([69] : List UInt8))) (
 callK (ρ.call 71 [LV.int .i64 x13] μ) (fun v87 μ88 =>
 opt (getStr v87) fun s91 =>
 guardB (small (List.length (((x19 ++ ([46] : List UInt8)) ++ x20) ++ ([69] : List UInt8)) + List.length s91)) (
 some (XG98_44_0 (1 : Int) x12 ((((x19 ++ ([46] : List UInt8)) ++ x20) ++ ([69] : List UInt8)) ++ s91) x6 (0 : Int) μ88))) (fun v90 μ89 =>
 some (XG98_44_1 v90 μ89)))) (
 some (XG98_44_0 (1 : Int) x12 ((x19 ++ ([46] : List UInt8)) ++ x20) x6 (0 : Int) μ))))) := by kernel_rfl
theorem nfXG98_44_0 (ρ : Rho) (o0_0 : Int) (o0_1 : Int) (o0_2 : List UInt8) (o0_3 : Int) (o0_4 : Int) (μ : Mu) : runK E.P ρ H98 [] (XG98_44_0 o0_0 o0_1 o0_2 o0_3 o0_4 μ) (segEnd H98 [(4, 0)]) =
 some (XG98_41_0 o0_0 o0_1 o0_2 o0_3 o0_4 μ) := by kernel_rfl
theorem nfG98_41 (ρ : Rho) (x0 : List UInt8) (x1 : Int) (x5 : Int) (x6 : Int) (x12 : Int) (x13 : Int) (x18 : List UInt8) (o0_0 : Int) (o0_1 : Int) (o0_2 : List UInt8) (o0_3 : Int) (o0_4 : Int) (μ : Mu) : segK E.P ρ H98 [(4, 0)] (codeAt E.P 98 [1, 1, 1, 1, 1, 1, 1, 1, 1, 1, 1, 1, 1])
 { fr := mkFr [(0, LV.str x0), (1, LV.int .i64 x1), (4, LV.loc 0 0), (5, LV.int .i64 x5), (6, LV.int .i64 x6), (12, LV.int .i64 x12), (13, LV.int .i64 x13), (18, LV.str x18)], lam := [Ob.cells [LV.int .i64 o0_0, LV.int .i64 o0_1, LV.str o0_2, LV.int .i64 o0_3, LV.int .i64 o0_4]], pushed := false } μ =
 opt (cutA x0 x1 (IntKind.wrap .i64 (x1 + x5))) fun s51 =>
 callK (ρ.call 70 [LV.str s51] μ) (fun v52 μ53 =>
 opt (getStr v52) fun s56 =>
 callK (ρ.call 69 [LV.str s56] μ53) (fun v57 μ58 =>
 opt (getStr v57) fun s61 =>
 callK (ρ.call 70 [LV.str x18] μ58) (fun v62 μ63 =>
 opt (getStr v62) fun s66 =>
 callK (ρ.call 134 [LV.str s66] μ63) (fun v67 μ68 =>
 opt (getStr v67) fun s71 =>
 callK (ρ.call 135 [LV.str s61] μ68) (fun v72 μ73 =>
 opt (getInt .i64 v72) fun n76 =>
 callK (ρ.call 135 [LV.str s71] μ73) (fun v77 μ78 =>
 opt (getInt .i64 v77) fun n81 =>
 cond (decide ((30 : Int) < IntKind.wrap .i64 (n76 + n81))) (
 some (XG98_41_0 (0 : Int) (0 : Int) ([] : List UInt8) (0 : Int) (7 : Int) μ78)) (
 opt (G98_44 ρ x6 x12 x13 s61 s71 o0_0 o0_1 o0_2 o0_3 o0_4 μ78) fun st92 => runK E.P ρ H98 [] st92 (segEnd H98 [(4, 0)]))) (fun v80 μ79 =>
 some (XG98_41_1 v80 μ79))) (fun v75 μ74 =>
 some (XG98_41_1 v75 μ74))) (fun v70 μ69 =>
 some (XG98_41_1 v70 μ69))) (fun v65 μ64 =>
 some (XG98_41_1 v65 μ64))) (fun v60 μ59 =>
 some (XG98_41_1 v60 μ59))) (fun v55 μ54 =>
 some (XG98_41_1 v55 μ54)) := by kernel_rfl
theorem nfXG98_41_0 (ρ : Rho) (o0_0 : Int) (o0_1 : Int) (o0_2 : List UInt8) (o0_3 : Int) (o0_4 : Int) (μ : Mu) : runK E.P ρ H98 [] (XG98_41_0 o0_0 o0_1 o0_2 o0_3 o0_4 μ) (segEnd H98 [(4, 0)]) =
 some (XG98_38_0 o0_0 o0_1 o0_2 o0_3 o0_4 μ) := by kernel_rfl
theorem nfG98_38 (ρ : Rho) (x0 : List UInt8) (x1 : Int) (x5 : Int) (x6 : Int) (x10 : Bool) (x11 : Int) (x12 : Int) (x13 : Int) (o0_0 : Int) (o0_1 : Int) (o0_2 : List UInt8) (o0_3 : Int) (o0_4 : Int) (μ : Mu) : segK E.P ρ H98 [(4, 0)] (codeAt E.P 98 [1, 1, 1, 1, 1, 1, 1, 1, 1, 1, 1])
 { fr := mkFr [(0, LV.str x0), (1, LV.int .i64 x1), (4, LV.loc 0 0), (5, LV.int .i64 x5), (6, LV.int .i64 x6), (10, LV.bool x10), (11, LV.int .i64 x11), (12, LV.int .i64 x12), (13, LV.int .i64 x13)], lam := [Ob.cells [LV.int .i64 o0_0, LV.int .i64 o0_1, LV.str o0_2, LV.int .i64 o0_3, LV.int .i64 o0_4]], pushed := false } μ =
 cond (x10) (
 opt (cutA x0 (IntKind.wrap .i64 (IntKind.wrap .i64 (x1 + x5) + (1 : Int))) (IntKind.wrap .i64 (IntKind.wrap .i64 (IntKind.wrap .i64 (x1 + x5) + (1 : Int)) + x11))) fun s50 =>
 opt (G98_41 ρ x0 x1 x5 x6 x12 x13 s50 o0_0 o0_1 o0_2 o0_3 o0_4 μ) fun st93 => runK E.P ρ H98 [] st93 (segEnd H98 [(4, 0)])) (
 opt (G98_41 ρ x0 x1 x5 x6 x12 x13 ([] : List UInt8) o0_0 o0_1 o0_2 o0_3 o0_4 μ) fun st94 => runK E.P ρ H98 [] st94 (segEnd H98 [(4, 0)])) := by kernel_rfl
theorem nfXG98_38_0 (ρ : Rho) (o0_0 : Int) (o0_1 : Int) (o0_2 : List UInt8) (o0_3 : Int) (o0_4 : Int) (μ : Mu) : runK E.P ρ H98 [] (XG98_38_0 o0_0 o0_1 o0_2 o0_3 o0_4 μ) (segEnd H98 [(4, 0)]) =
 some (XG98_31_0 o0_0 o0_1 o0_2 o0_3 o0_4 μ) := by kernel_rfl
theorem nfG98_31 (ρ : Rho) (x0 : List UInt8) (x1 : Int) (x5 : Int) (x6 : Int) (x10 : Bool) (x11 : Int) (x12 : Int) (x13 : Int) (x14 : Bool) (o0_0 : Int) (o0_1 : Int) (o0_2 : List UInt8) (o0_3 : Int) (o0_4 : Int) (μ : Mu) : segK E.P ρ H98 [(4, 0)] (codeAt E.P 98 [1, 1, 1, 1, 1, 1, 1, 1, 1, 1])
 { fr := mkFr [(0, LV.str x0), (1, LV.int .i64 x1), (4, LV.loc 0 0), (5, LV.int .i64 x5), (6, LV.int .i64 x6), (10, LV.bool x10), (11, LV.int .i64 x11), (12, LV.int .i64 x12), (13, LV.int .i64 x13), (14, LV.bool x14)], lam := [Ob.cells [LV.int .i64 o0_0, LV.int .i64 o0_1, LV.str o0_2, LV.int .i64 o0_3, LV.int .i64 o0_4]], pushed := false } μ =
 cond (!x10) (
 cond (!x14) (
 cond (decide ((10 : Int) < x5)) (
 some (XG98_31_0 (0 : Int) (0 : Int) ([] : List UInt8) (0 : Int) (28 : Int) μ)) (
 opt (G98_34 ρ x0 x1 x5 x6 o0_0 o0_1 o0_2 o0_3 o0_4 μ) fun st49 => runK E.P ρ H98 [.seq (codeAt E.P 98 [1, 1, 1, 1, 1, 1, 1, 1, 1, 1, 1])] st49 (segEnd H98 [(4, 0)]))) (
 opt (G98_38 ρ x0 x1 x5 x6 x10 x11 x12 x13 o0_0 o0_1 o0_2 o0_3 o0_4 μ) fun st95 => runK E.P ρ H98 [] st95 (segEnd H98 [(4, 0)]))) (
 opt (G98_38 ρ x0 x1 x5 x6 x10 x11 x12 x13 o0_0 o0_1 o0_2 o0_3 o0_4 μ) fun st96 => runK E.P ρ H98 [] st96 (segEnd H98 [(4, 0)])) := by kernel_rfl
theorem nfXG98_31_0 (ρ : Rho) (o0_0 : Int) (o0_1 : Int) (o0_2 : List UInt8) (o0_3 : Int) (o0_4 : Int) (μ : Mu) : runK E.P ρ H98 [] (XG98_31_0 o0_0 o0_1 o0_2 o0_3 o0_4 μ) (segEnd H98 [(4, 0)]) =
 some (XG98_14_0 o0_0 o0_1 o0_2 o0_3 o0_4 μ) := by kernel_rfl
theorem nfXG98_20_1 (ρ : Rho) (x0 : List UInt8) (x1 : Int) (x5 : Int) (x6 : Int) (x10 : Bool) (x11 : Int) (x12 : Int) (x13 : Int) (x14 : Bool) (o0_0 : Int) (o0_1 : Int) (o0_2 : List UInt8) (o0_3 : Int) (o0_4 : Int) (μ : Mu) : runK E.P ρ H98 [.seq (codeAt E.P 98 [1, 1, 1, 1, 1, 1, 1, 1, 1, 1])] (XG98_20_1 x0 x1 x5 x6 x10 x11 x12 x13 x14 o0_0 o0_1 o0_2 o0_3 o0_4 μ) (segEnd H98 [(4, 0)]) =
 opt (G98_31 ρ x0 x1 x5 x6 x10 x11 x12 x13 x14 o0_0 o0_1 o0_2 o0_3 o0_4 μ) fun st97 => runK E.P ρ H98 [] st97 (segEnd H98 [(4, 0)]) := by kernel_rfl
theorem nfG98_14 (ρ : Rho) (x0 : List UInt8) (x1 : Int) (x5 : Int) (x6 : Int) (x7 : Bool) (x10 : Bool) (x11 : Int) (o0_0 : Int) (o0_1 : Int) (o0_2 : List UInt8) (o0_3 : Int) (o0_4 : Int) (μ : Mu) : segK E.P ρ H98 [(4, 0)] (codeAt E.P 98 [1, 1, 1, 1, 1, 1, 1])
 { fr := mkFr [(0, LV.str x0), (1, LV.int .i64 x1), (4, LV.loc 0 0), (5, LV.int .i64 x5), (6, LV.int .i64 x6), (7, LV.bool x7), (10, LV.bool x10), (11, LV.int .i64 x11)], lam := [Ob.cells [LV.int .i64 o0_0, LV.int .i64 o0_1, LV.str o0_2, LV.int .i64 o0_3, LV.int .i64 o0_4]], pushed := false } μ =
 cond (!x7) (
 cond (decide (x6 < (List.length x0 : Int))) (
 opt (strAt x0 x6) fun y24 =>
 cond (decide ((y24.toNat : Int) = (69 : Int))) (
 cond (decide (IntKind.wrap .i64 (x6 + (1 : Int)) < (List.length x0 : Int))) (
 opt (strAt x0 (IntKind.wrap .i64 (x6 + (1 : Int)))) fun y25 =>
 cond (decide ((y25.toNat : Int) = (43 : Int))) (
 opt (G98_20 ρ x0 x1 x5 x6 x10 x11 (1 : Int) (0 : Int) false (IntKind.wrap .i64 (IntKind.wrap .i64 (x6 + (1 : Int)) + (1 : Int))) o0_0 o0_1 o0_2 o0_3 o0_4 μ) fun st98 => runK E.P ρ H98 [.seq (codeAt E.P 98 [1, 1, 1, 1, 1, 1, 1, 1, 1, 1])] st98 (segEnd H98 [(4, 0)])) (
 opt (strAt x0 (IntKind.wrap .i64 (x6 + (1 : Int)))) fun y99 =>
 cond (decide ((y99.toNat : Int) = (45 : Int))) (
 opt (G98_20 ρ x0 x1 x5 x6 x10 x11 (1 : Int) (0 : Int) false (IntKind.wrap .i64 (IntKind.wrap .i64 (x6 + (1 : Int)) + (1 : Int))) o0_0 o0_1 o0_2 o0_3 o0_4 μ) fun st100 => runK E.P ρ H98 [.seq (codeAt E.P 98 [1, 1, 1, 1, 1, 1, 1, 1, 1, 1])] st100 (segEnd H98 [(4, 0)])) (
 opt (G98_20 ρ x0 x1 x5 x6 x10 x11 (1 : Int) (0 : Int) false (IntKind.wrap .i64 (x6 + (1 : Int))) o0_0 o0_1 o0_2 o0_3 o0_4 μ) fun st101 => runK E.P ρ H98 [.seq (codeAt E.P 98 [1, 1, 1, 1, 1, 1, 1, 1, 1, 1])] st101 (segEnd H98 [(4, 0)])))) (
 opt (G98_20 ρ x0 x1 x5 x6 x10 x11 (1 : Int) (0 : Int) false (IntKind.wrap .i64 (x6 + (1 : Int))) o0_0 o0_1 o0_2 o0_3 o0_4 μ) fun st102 => runK E.P ρ H98 [.seq (codeAt E.P 98 [1, 1, 1, 1, 1, 1, 1, 1, 1, 1])] st102 (segEnd H98 [(4, 0)]))) (
 opt (strAt x0 x6) fun y103 =>
 cond (decide ((y103.toNat : Int) = (101 : Int))) (
 cond (decide (IntKind.wrap .i64 (x6 + (1 : Int)) < (List.length x0 : Int))) (
 opt (strAt x0 (IntKind.wrap .i64 (x6 + (1 : Int)))) fun y104 =>
 cond (decide ((y104.toNat : Int) = (43 : Int))) (
 opt (G98_20 ρ x0 x1 x5 x6 x10 x11 (1 : Int) (0 : Int) false (IntKind.wrap .i64 (IntKind.wrap .i64 (x6 + (1 : Int)) + (1 : Int))) o0_0 o0_1 o0_2 o0_3 o0_4 μ) fun st105 => runK E.P ρ H98 [.seq (codeAt E.P 98 [1, 1, 1, 1, 1, 1, 1, 1, 1, 1])] st105 (segEnd H98 [(4, 0)])) (
 opt (strAt x0 (IntKind.wrap .i64 (x6 + (1 : Int)))) fun y106 =>
 cond (decide ((y106.toNat : Int) = (45 : Int))) (
 opt (G98_20 ρ x0 x1 x5 x6 x10 x11 (1 : Int) (0 : Int) false (IntKind.wrap .i64 (IntKind.wrap .i64 (x6 + (1 : Int)) + (1 : Int))) o0_0 o0_1 o0_2 o0_3 o0_4 μ) fun st107 => runK E.P ρ H98 [.seq (codeAt E.P 98 [1, 1, 1, 1, 1, 1, 1, 1, 1, 1])] st107 (segEnd H98 [(4, 0)])) (
 opt (G98_20 ρ x0 x1 x5 x6 x10 x11 (1 : Int) (0 : Int) false (IntKind.wrap .i64 (x6 + (1 : Int))) o0_0 o0_1 o0_2 o0_3 o0_4 μ) fun st108 => runK E.P ρ H98 [.seq (codeAt E.P 98 [1, 1, 1, 1, 1, 1, 1, 1, 1, 1])] st108 (segEnd H98 [(4, 0)])))) (
 opt (G98_20 ρ x0 x1 x5 x6 x10 x11 (1 : Int) (0 : Int) false (IntKind.wrap .i64 (x6 + (1 : Int))) o0_0 o0_1 o0_2 o0_3 o0_4 μ) fun st109 => runK E.P ρ H98 [.seq (codeAt E.P 98 [1, 1, 1, 1, 1, 1, 1, 1, 1, 1])] st109 (segEnd H98 [(4, 0)]))) (
 opt (strAt x0 x6) fun y110 =>
 cond (decide ((y110.toNat : Int) = (68 : Int))) (
 cond (decide (IntKind.wrap .i64 (x6 + (1 : Int)) < (List.length x0 : Int))) (
 opt (strAt x0 (IntKind.wrap .i64 (x6 + (1 : Int)))) fun y111 =>
 cond (decide ((y111.toNat : Int) = (43 : Int))) (
 opt (G98_20 ρ x0 x1 x5 x6 x10 x11 (1 : Int) (0 : Int) false (IntKind.wrap .i64 (IntKind.wrap .i64 (x6 + (1 : Int)) + (1 : Int))) o0_0 o0_1 o0_2 o0_3 o0_4 μ) fun st112 => runK E.P ρ H98 [.seq (codeAt E.P 98 [1, 1, 1, 1, 1, 1, 1, 1, 1, 1])] st112 (segEnd H98 [(4, 0)])) (
 opt (strAt x0 (IntKind.wrap .i64 (x6 + (1 : Int)))) fun y113 =>
 cond (decide ((y113.toNat : Int) = (45 : Int))) (
 opt (G98_20 ρ x0 x1 x5 x6 x10 x11 (1 : Int) (0 : Int) false (IntKind.wrap .i64 (IntKind.wrap .i64 (x6 + (1 : Int)) + (1 : Int))) o0_0 o0_1 o0_2 o0_3 o0_4 μ) fun st114 => runK E.P ρ H98 [.seq (codeAt E.P 98 [1, 1, 1, 1, 1, 1, 1, 1, 1, 1])] st114 (segEnd H98 [(4, 0)])) (
 opt (G98_20 ρ x0 x1 x5 x6 x10 x11 (1 : Int) (0 : Int) false (IntKind.wrap .i64 (x6 + (1 : Int))) o0_0 o0_1 o0_2 o0_3 o0_4 μ) fun st115 => runK E.P ρ H98 [.seq (codeAt E.P 98 [1, 1, 1, 1, 1, 1, 1, 1, 1, 1])] st115 (segEnd H98 [(4, 0)])))) (
 opt (G98_20 ρ x0 x1 x5 x6 x10 x11 (1 : Int) (0 : Int) false (IntKind.wrap .i64 (x6 + (1 : Int))) o0_0 o0_1 o0_2 o0_3 o0_4 μ) fun st116 => runK E.P ρ H98 [.seq (codeAt E.P 98 [1, 1, 1, 1, 1, 1, 1, 1, 1, 1])] st116 (segEnd H98 [(4, 0)]))) (
 opt (strAt x0 x6) fun y117 =>
 cond (decide ((y117.toNat : Int) = (100 : Int))) (
 cond (decide (IntKind.wrap .i64 (x6 + (1 : Int)) < (List.length x0 : Int))) (
 opt (strAt x0 (IntKind.wrap .i64 (x6 + (1 : Int)))) fun y118 =>
 cond (decide ((y118.toNat : Int) = (43 : Int))) (
 opt (G98_20 ρ x0 x1 x5 x6 x10 x11 (1 : Int) (0 : Int) false (IntKind.wrap .i64 (IntKind.wrap .i64 (x6 + (1 : Int)) + (1 : Int))) o0_0 o0_1 o0_2 o0_3 o0_4 μ) fun st119 => runK E.P ρ H98 [.seq (codeAt E.P 98 [1, 1, 1, 1, 1, 1, 1, 1, 1, 1])] st119 (segEnd H98 [(4, 0)])) (
 opt (strAt x0 (IntKind.wrap .i64 (x6 + (1 : Int)))) fun y120 =>
 cond (decide ((y120.toNat : Int) = (45 : Int))) (
 opt (G98_20 ρ x0 x1 x5 x6 x10 x11 (1 : Int) (0 : Int) false (IntKind.wrap .i64 (IntKind.wrap .i64 (x6 + (1 : Int)) + (1 : Int))) o0_0 o0_1 o0_2 o0_3 o0_4 μ) fun st121 => runK E.P ρ H98 [.seq (codeAt E.P 98 [1, 1, 1, 1, 1, 1, 1, 1, 1, 1])] st121 (segEnd H98 [(4, 0)])) (
 opt (G98_20 ρ x0 x1 x5 x6 x10 x11 (1 : Int) (0 : Int) false (IntKind.wrap .i64 (x6 + (1 : Int))) o0_0 o0_1 o0_2 o0_3 o0_4 μ) fun st122 => runK E.P ρ H98 [.seq (codeAt E.P 98 [1, 1, 1, 1, 1, 1, 1, 1, 1, 1])] st122 (segEnd H98 [(4, 0)])))) (
 opt (G98_20 ρ x0 x1 x5 x6 x10 x11 (1 : Int) (0 : Int) false (IntKind.wrap .i64 (x6 + (1 : Int))) o0_0 o0_1 o0_2 o0_3 o0_4 μ) fun st123 => runK E.P ρ H98 [.seq (codeAt E.P 98 [1, 1, 1, 1, 1, 1, 1, 1, 1, 1])] st123 (segEnd H98 [(4, 0)]))) (
 opt (G98_31 ρ x0 x1 x5 x6 x10 x11 (1 : Int) (0 : Int) false o0_0 o0_1 o0_2 o0_3 o0_4 μ) fun st124 => runK E.P ρ H98 [] st124 (segEnd H98 [(4, 0)])))))) (
 opt (G98_31 ρ x0 x1 x5 x6 x10 x11 (1 : Int) (0 : Int) false o0_0 o0_1 o0_2 o0_3 o0_4 μ) fun st125 => runK E.P ρ H98 [] st125 (segEnd H98 [(4, 0)]))) (
 opt (G98_31 ρ x0 x1 x5 x6 x10 x11 (1 : Int) (0 : Int) false o0_0 o0_1 o0_2 o0_3 o0_4 μ) fun st126 => runK E.P ρ H98 [] st126 (segEnd H98 [(4, 0)])) := by kernel_rfl
theorem nfXG98_14_0 (ρ : Rho) (o0_0 : Int) (o0_1 : Int) (o0_2 : List UInt8) (o0_3 : Int) (o0_4 : Int) (μ : Mu) : runK E.P ρ H98 [] (XG98_14_0 o0_0 o0_1 o0_2 o0_3 o0_4 μ) (bodyEnd E.P (resOf E.P 98)) =
 some (.ret (LV.cv (CV.agg [CV.int .i64 o0_0, CV.int .i64 o0_1, CV.str o0_2, CV.int .i64 o0_3, CV.int .i64 o0_4])) μ) := by kernel_rfl
theorem nfXL98_5_1 (ρ : Rho) (x0 : List UInt8) (x1 : Int) (x5 : Int) (x6 : Int) (x7 : Bool) (o0_0 : Int) (o0_1 : Int) (o0_2 : List UInt8) (o0_3 : Int) (o0_4 : Int) (μ : Mu) : runK E.P ρ H98 [.block 0, .seq (codeAt E.P 98 [1, 1, 1, 1, 1])] (XL98_5_1 x0 x1 x5 x6 x7 o0_0 o0_1 o0_2 o0_3 o0_4 μ) (bodyEnd E.P (resOf E.P 98)) =
 cond (!x7) (
 cond (decide (x6 < (List.length x0 : Int))) (
 opt (strAt x0 x6) fun y18 =>
 cond (decide ((y18.toNat : Int) = (46 : Int))) (
 callK (ρ.call 47 [LV.str x0, LV.int .i64 (IntKind.wrap .i64 (x6 + (1 : Int)))] μ) (fun v19 μ20 =>
 opt (getInt .i64 v19) fun n23 =>
 opt (G98_14 ρ x0 x1 x5 (IntKind.wrap .i64 (IntKind.wrap .i64 (x6 + (1 : Int)) + n23)) x7 true n23 o0_0 o0_1 o0_2 o0_3 o0_4 μ20) fun st127 => runK E.P ρ H98 [] st127 (bodyEnd E.P (resOf E.P 98))) (fun v22 μ21 =>
 guardB (below (List.length μ21) v22) (some (.panic v22 μ21)))) (
 opt (G98_14 ρ x0 x1 x5 x6 x7 false (0 : Int) o0_0 o0_1 o0_2 o0_3 o0_4 μ) fun st128 => runK E.P ρ H98 [] st128 (bodyEnd E.P (resOf E.P 98)))) (
 opt (G98_14 ρ x0 x1 x5 x6 x7 false (0 : Int) o0_0 o0_1 o0_2 o0_3 o0_4 μ) fun st129 => runK E.P ρ H98 [] st129 (bodyEnd E.P (resOf E.P 98)))) (
 opt (G98_14 ρ x0 x1 x5 x6 x7 false (0 : Int) o0_0 o0_1 o0_2 o0_3 o0_4 μ) fun st130 => runK E.P ρ H98 [] st130 (bodyEnd E.P (resOf E.P 98))) := by kernel_rfl
theorem nf98 (ρ : Rho) (a : List UInt8) (b : Int) (μ : Mu) : callStep E ρ 98 [LV.str a, LV.int .i64 b] μ =
 callK (ρ.call 47 [LV.str a, LV.int .i64 b] μ) (fun v1 μ2 =>
 opt (getInt .i64 v1) fun n5 =>
 callK (ρ.call 55 [] μ2) (fun v6 μ7 =>
 opt (getOsl v6) fun l10 =>
 guardB (appOK 1 l10 [CV.str ([46, 84, 82, 85, 69, 46] : List UInt8), CV.str ([46, 70, 65, 76, 83, 69, 46] : List UInt8)]) (
 opt (L98_5 ρ a b n5 (IntKind.wrap .i64 (b + n5)) false (l10 ++ [CV.str ([46, 84, 82, 85, 69, 46] : List UInt8), CV.str ([46, 70, 65, 76, 83, 69, 46] : List UInt8)]) (List.length (l10 ++ [CV.str ([46, 84, 82, 85, 69, 46] : List UInt8), CV.str ([46, 70, 65, 76, 83, 69, 46] : List UInt8)]) : Int) (0 : Int) (0 : Int) (0 : Int) ([] : List UInt8) (0 : Int) (0 : Int) μ7) fun st131 => runK E.P ρ H98 [.block 0, .seq (codeAt E.P 98 [1, 1, 1, 1, 1])] st131 (bodyEnd E.P (resOf E.P 98)))) (fun v9 μ8 =>
 guardB (below (List.length μ8) v9) (some (.panic v9 μ8)))) (fun v4 μ3 =>
 guardB (below (List.length μ3) v4) (some (.panic v4 μ3))) := by kernel_rfl
theorem nf99 (ρ : Rho) (a : List UInt8) (b : Int) (c : List UInt8) (μ : Mu) : callStep E ρ 99 [LV.str a, LV.int .i64 b, LV.str c] μ =
 cond (decide (IntKind.wrap .i64 (b + (List.length c : Int)) ≤ (List.length a : Int))) (
 opt (cutA a b (IntKind.wrap .i64 (b + (List.length c : Int)))) fun s1 =>
 callK (ρ.call 97 [LV.str s1] μ) (fun v2 μ3 =>
 opt (getStr v2) fun s6 =>
 some (.ret (LV.bool (decide (s6 = c))) μ3)) (fun v5 μ4 =>
 guardB (below (List.length μ4) v5) (some (.panic v5 μ4)))) (
 some (.ret (LV.bool false) μ)) := by kernel_rfl
theorem nf100 (ρ : Rho) (μ : Mu) : callStep E ρ 100 [] μ =
 some (.ret (LV.osl [CV.agg [CV.str ([60, 61] : List UInt8), CV.str ([46, 76, 69, 46] : List UInt8)], CV.agg [CV.str ([62, 61] : List UInt8), CV.str ([46, 71, 69, 46] : List UInt8)], CV.agg [CV.str ([61, 61] : List UInt8), CV.str ([46, 69, 81, 46] : List UInt8)], CV.agg [CV.str ([47, 61] : List UInt8), CV.str ([46, 78, 69, 46] : List UInt8)], CV.agg [CV.str ([60] : List UInt8), CV.str ([46, 76, 84, 46] : List UInt8)], CV.agg [CV.str ([62] : List UInt8), CV.str ([46, 71, 84, 46] : List UInt8)]]) μ) := by kernel_rfl
theorem nf117 (ρ : Rho) (a : List UInt8) (μ : Mu) : callStep E ρ 117 [LV.str a] μ =
 cond (decide ((1320 : Int) < (List.length a : Int))) (
 some (.ret (LV.int .i64 (8 : Int)) μ)) (
 callK (ρ.call 85 [LV.str a] μ) (fun v1 μ2 =>
 opt (getBool v1) fun b5 =>
 cond (!b5) (
 some (.ret (LV.int .i64 (3 : Int)) μ2)) (
 some (.ret (LV.int .i64 (0 : Int)) μ2))) (fun v4 μ3 =>
 guardB (below (List.length μ3) v4) (some (.panic v4 μ3)))) := by kernel_rfl
noncomputable def L118_2 (ρ : Rho) (x0l : Nat) (x0i : Nat) (x2 : Int) (o0_0 : Int) (μ : Mu) : Option St := ρ.loop H118 [(0, 0), (2, 0), (3, 0), (6, 0)] (codeAt E.P 118 [1, 1, 0, 0])
 { fr := mkFr [(0, LV.cv (CV.ref x0l x0i 0)), (2, LV.int .i64 x2), (3, LV.loc 0 0), (6, LV.lclo 147 [LV.loc 0 0])], lam := [Ob.cells [LV.int .i64 o0_0]], pushed := false } μ
noncomputable def L118_2b (ρ : Rho) (x0l : Nat) (x0i : Nat) (x2 : Int) (o0_0 : Int) (μ : Mu) : Option St := ρ.loop H118 [(0, 0), (2, 0), (3, 0), (6, 0)] (codeAt E.P 118 [1, 1, 0, 0, 0, 0, 0, 0])
 { fr := mkFr [(0, LV.cv (CV.ref x0l x0i 0)), (2, LV.int .i64 x2), (3, LV.loc 0 0), (6, LV.lclo 147 [LV.loc 0 0])], lam := [Ob.cells [LV.int .i64 o0_0]], pushed := false } μ
def XL118_2b_0 (x0l : Nat) (x0i : Nat) (x2 : Int) (o0_0 : Int) (μ : Mu) : St := .exit 2 { fr := mkFr [(0, LV.cv (CV.ref x0l x0i 0)), (2, LV.int .i64 x2), (3, LV.loc 0 0), (6, LV.lclo 147 [LV.loc 0 0])], lam := [Ob.cells [LV.int .i64 o0_0]], pushed := false } μ
def XL118_2_0 (x2 : Int) (o0_0 : Int) (μ : Mu) : St := .ret { fr := mkFr [(2, LV.int .i64 x2), (3, LV.loc 0 0), (6, LV.lclo 147 [LV.loc 0 0])], lam := [Ob.cells [LV.int .i64 o0_0]], pushed := false } μ
noncomputable def G118_6 (ρ : Rho) (x0l : Nat) (x0i : Nat) (x2 : Int) (o0_0 : Int) (μ : Mu) : Option St := ρ.seg H118 [(0, 0), (2, 0), (3, 0), (6, 0)] (codeAt E.P 118 [1, 1, 0, 0, 0, 1, 1])
 { fr := mkFr [(0, LV.cv (CV.ref x0l x0i 0)), (2, LV.int .i64 x2), (3, LV.loc 0 0), (6, LV.lclo 147 [LV.loc 0 0])], lam := [Ob.cells [LV.int .i64 o0_0]], pushed := false } μ
def XG118_6_0 (x0l : Nat) (x0i : Nat) (x2 : Int) (o0_0 : Int) (μ : Mu) : St := .norm { fr := mkFr [(0, LV.cv (CV.ref x0l x0i 0)), (2, LV.int .i64 x2), (3, LV.loc 0 0), (6, LV.lclo 147 [LV.loc 0 0])], lam := [Ob.cells [LV.int .i64 o0_0]], pushed := false } μ
def XG118_6_1 (pv : CV) (x2 : Int) (o0_0 : Int) (μ : Mu) : St := .panic pv { fr := mkFr [(2, LV.int .i64 x2), (3, LV.loc 0 0), (6, LV.lclo 147 [LV.loc 0 0])], lam := [Ob.cells [LV.int .i64 o0_0]], pushed := false } μ
def XL118_2_1 (pv : CV) (x2 : Int) (o0_0 : Int) (μ : Mu) : St := .panic pv { fr := mkFr [(2, LV.int .i64 x2), (3, LV.loc 0 0), (6, LV.lclo 147 [LV.loc 0 0])], lam := [Ob.cells [LV.int .i64 o0_0]], pushed := false } μ
theorem nfL118_2b (ρ : Rho) (x0l : Nat) (x0i : Nat) (x2 : Int) (o0_0 : Int) (μ : Mu) : roundK E.P ρ H118 [(0, 0), (2, 0), (3, 0), (6, 0)] (codeAt E.P 118 [1, 1, 0, 0, 0, 0, 0, 0])
 { fr := mkFr [(0, LV.cv (CV.ref x0l x0i 0)), (2, LV.int .i64 x2), (3, LV.loc 0 0), (6, LV.lclo 147 [LV.loc 0 0])], lam := [Ob.cells [LV.int .i64 o0_0]], pushed := false } μ =
 opt (obRead E.P 9 (muOb μ x0l x0i) 0) fun v1 =>
 opt (getStr v1) fun s2 =>
 cond (decide (x2 < (List.length s2 : Int))) (
 opt (obRead E.P 9 (muOb μ x0l x0i) 0) fun v3 =>
 opt (getStr v3) fun s4 =>
 opt (strAt s4 x2) fun y5 =>
 cond (decide ((y5.toNat : Int) = (32 : Int))) (
 L118_2b ρ x0l x0i (IntKind.wrap .i64 (x2 + (1 : Int))) o0_0 μ) (
 some (XL118_2b_0 x0l x0i x2 o0_0 μ))) (
 some (XL118_2b_0 x0l x0i x2 o0_0 μ)) := by kernel_rfl
theorem nfG118_6 (ρ : Rho) (x0l : Nat) (x0i : Nat) (x2 : Int) (o0_0 : Int) (μ : Mu) : segK E.P ρ H118 [(0, 0), (2, 0), (3, 0), (6, 0)] (codeAt E.P 118 [1, 1, 0, 0, 0, 1, 1])
 { fr := mkFr [(0, LV.cv (CV.ref x0l x0i 0)), (2, LV.int .i64 x2), (3, LV.loc 0 0), (6, LV.lclo 147 [LV.loc 0 0])], lam := [Ob.cells [LV.int .i64 o0_0]], pushed := false } μ =
 callK (ρ.call 148 [LV.cv (CV.ref x0l x0i 0), LV.int .i64 x2] μ) (fun v8 μ9 =>
 opt (getTup v8) fun xs12 =>
 opt (uncons xs12) fun q13 =>
 rd23 q13.1 fun n14 n15 s16 =>
 opt (uncons q13.2) fun q17 =>
 opt (getInt .i64 q17.1) fun n18 =>
 opt (isNilL q17.2) fun u19 =>
 opt (obTake E.P 32 (muOb μ9 x0l x0i) 2) fun r20 =>
 opt (getOsl r20.1) fun l21 =>
 guardB (appOK 3 l21 [CV.agg [CV.int .i64 n14, CV.int .i64 n15, CV.str s16]]) (
 guardB (belowL (x0l + 1) (l21 ++ [CV.agg [CV.int .i64 n14, CV.int .i64 n15, CV.str s16]])) (
 opt (obWrite E.P 32 (muOb (muSet μ9 x0l x0i r20.2) x0l x0i) 2 (LV.osl (l21 ++ [CV.agg [CV.int .i64 n14, CV.int .i64 n15, CV.str s16]]))) fun o22 =>
 some (XG118_6_0 x0l x0i n18 o0_0 (muSet (muSet μ9 x0l x0i r20.2) x0l x0i o22))))) (fun v11 μ10 =>
 some (XG118_6_1 v11 x2 o0_0 μ10)) := by kernel_rfl
theorem nfXG118_6_0 (ρ : Rho) (x0l : Nat) (x0i : Nat) (x2 : Int) (o0_0 : Int) (μ : Mu) : runK E.P ρ H118 [.block 1] (XG118_6_0 x0l x0i x2 o0_0 μ) (roundEnd E.P ρ H118 [(0, 0), (2, 0), (3, 0), (6, 0)] (codeAt E.P 118 [1, 1, 0, 0])) =
 L118_2 ρ x0l x0i x2 o0_0 μ := by kernel_rfl
theorem nfXG118_6_1 (ρ : Rho) (pv : CV) (x2 : Int) (o0_0 : Int) (μ : Mu) : runK E.P ρ H118 [.block 1] (XG118_6_1 pv x2 o0_0 μ) (roundEnd E.P ρ H118 [(0, 0), (2, 0), (3, 0), (6, 0)] (codeAt E.P 118 [1, 1, 0, 0])) =
 some (XL118_2_1 pv x2 o0_0 μ) := by kernel_rfl
theorem nfXL118_2b_0 (ρ : Rho) (x0l : Nat) (x0i : Nat) (x2 : Int) (o0_0 : Int) (μ : Mu) : runK E.P ρ H118 [.block 2, .seq (codeAt E.P 118 [1, 1, 0, 0, 0, 1]), .block 1] (XL118_2b_0 x0l x0i x2 o0_0 μ) (roundEnd E.P ρ H118 [(0, 0), (2, 0), (3, 0), (6, 0)] (codeAt E.P 118 [1, 1, 0, 0])) =
 opt (obRead E.P 9 (muOb μ x0l x0i) 0) fun v6 =>
 opt (getStr v6) fun s7 =>
 cond (decide ((List.length s7 : Int) ≤ x2)) (
 some (XL118_2_0 (0 : Int) (0 : Int) μ)) (
 opt (G118_6 ρ x0l x0i x2 o0_0 μ) fun st23 => runK E.P ρ H118 [.block 1] st23 (roundEnd E.P ρ H118 [(0, 0), (2, 0), (3, 0), (6, 0)] (codeAt E.P 118 [1, 1, 0, 0]))) := by kernel_rfl
theorem nfL118_2 (ρ : Rho) (x0l : Nat) (x0i : Nat) (x2 : Int) (o0_0 : Int) (μ : Mu) : roundK E.P ρ H118 [(0, 0), (2, 0), (3, 0), (6, 0)] (codeAt E.P 118 [1, 1, 0, 0])
 { fr := mkFr [(0, LV.cv (CV.ref x0l x0i 0)), (2, LV.int .i64 x2), (3, LV.loc 0 0), (6, LV.lclo 147 [LV.loc 0 0])], lam := [Ob.cells [LV.int .i64 o0_0]], pushed := false } μ =
 opt (L118_2b ρ x0l x0i x2 o0_0 μ) fun st24 => runK E.P ρ H118 [.block 2, .seq (codeAt E.P 118 [1, 1, 0, 0, 0, 1]), .block 1] st24 (roundEnd E.P ρ H118 [(0, 0), (2, 0), (3, 0), (6, 0)] (codeAt E.P 118 [1, 1, 0, 0])) := by kernel_rfl
theorem nfXL118_2_0 (ρ : Rho) (x2 : Int) (o0_0 : Int) (μ : Mu) : runK E.P ρ H118 [.block 0] (XL118_2_0 x2 o0_0 μ) (endD E.P ρ 6 (resOf E.P 118)) =
 opt (ρ.dcall 147 none [LV.cv (CV.ref (List.length μ) 0 0)] (μ ++ [[Ob.cells [LV.int .i64 o0_0]]])) fun μ25 =>
 opt (popMu μ25) fun q26 =>
 opt (opt (opt (obRead E.P 25 (lamOb q26.2 0) 0) fun v27 =>
 some [v27]) fun l28 => some (LV.int .i64 x2 :: l28)) fun l29 => guardB (flatRes (resultA l29)) (guardB (belowRes (List.length q26.1) (resultA l29)) (some (.ret (resultA l29) q26.1))) := by kernel_rfl
theorem nfXL118_2_1 (ρ : Rho) (pv : CV) (x2 : Int) (o0_0 : Int) (μ : Mu) : runK E.P ρ H118 [.block 0] (XL118_2_1 pv x2 o0_0 μ) (endD E.P ρ 6 (resOf E.P 118)) =
 opt (ρ.dcall 147 (some pv) [LV.cv (CV.ref (List.length μ) 0 0)] (μ ++ [[Ob.cells [LV.int .i64 o0_0]]])) fun μ30 =>
 opt (popMu μ30) fun q31 =>
 opt (opt (opt (obRead E.P 25 (lamOb q31.2 0) 0) fun v32 =>
 some [v32]) fun l33 => some (LV.int .i64 x2 :: l33)) fun l34 => guardB (flatRes (resultA l34)) (guardB (belowRes (List.length q31.1) (resultA l34)) (some (.ret (resultA l34) q31.1))) := by kernel_rfl
theorem nf118 (ρ : Rho) (al : Nat) (ai : Nat) (μ : Mu) : callStep E ρ 118 [LV.cv (CV.ref al ai 0)] μ =
 opt (L118_2 ρ al ai (0 : Int) (0 : Int) μ) fun st35 => runK E.P ρ H118 [.block 0] st35 (endD E.P ρ 6 (resOf E.P 118)) := by kernel_rfl
noncomputable def L120_3 (ρ : Rho) (x0 : List UInt8) (x3 : Int) (x4 : Int) (μ : Mu) : Option St := ρ.loop H120 [(3, 0)] (codeAt E.P 120 [1, 1, 0, 1, 0, 0])
 { fr := mkFr [(0, LV.str x0), (3, LV.int .i64 x3), (4, LV.int .i64 x4)], lam := [], pushed := false } μ
def XL120_3_0 (x3 : Int) (μ : Mu) : St := .exit 0 { fr := mkFr [(3, LV.int .i64 x3)], lam := [], pushed := false } μ
theorem nfL120_3 (ρ : Rho) (x0 : List UInt8) (x3 : Int) (x4 : Int) (μ : Mu) : roundK E.P ρ H120 [(3, 0)] (codeAt E.P 120 [1, 1, 0, 1, 0, 0])
 { fr := mkFr [(0, LV.str x0), (3, LV.int .i64 x3), (4, LV.int .i64 x4)], lam := [], pushed := false } μ =
 cond (decide (x4 < (List.length x0 : Int))) (
 opt (strAt x0 x4) fun y1 =>
 L120_3 ρ x0 (IntKind.wrap .i64 (IntKind.wrap .i64 ((10 : Int) * x3) + IntKind.wrap .i64 (IntKind.wrap .u8 ((y1.toNat : Int) - (48 : Int))))) (IntKind.wrap .i64 (x4 + (1 : Int))) μ) (
 some (XL120_3_0 x3 μ)) := by kernel_rfl
theorem nfXL120_3_0 (ρ : Rho) (x3 : Int) (μ : Mu) : runK E.P ρ H120 [.block 0, .seq (codeAt E.P 120 [1, 1, 1])] (XL120_3_0 x3 μ) (bodyEnd E.P (resOf E.P 120)) =
 some (.ret (LV.int .i64 x3) μ) := by kernel_rfl
theorem nf120 (ρ : Rho) (a : List UInt8) (μ : Mu) : callStep E ρ 120 [LV.str a] μ =
 opt (L120_3 ρ a (0 : Int) (0 : Int) μ) fun st2 => runK E.P ρ H120 [.block 0, .seq (codeAt E.P 120 [1, 1, 1])] st2 (bodyEnd E.P (resOf E.P 120)) := by kernel_rfl
theorem nf132 (ρ : Rho) (a : Int) (μ : Mu) : callStep E ρ 132 [LV.int .u8 a] μ =
 cond (decide ((48 : Int) ≤ a)) (
 some (.ret (LV.bool (decide (a ≤ (57 : Int)))) μ)) (
 some (.ret (LV.bool false) μ)) := by kernel_rfl
noncomputable def L134_1 (ρ : Rho) (x0 : List UInt8) (μ : Mu) : Option St := ρ.loop H134 [(0, 0)] (codeAt E.P 134 [1, 0, 0, 0])
 { fr := mkFr [(0, LV.str x0)], lam := [], pushed := false } μ
def XL134_1_0 (x0 : List UInt8) (μ : Mu) : St := .exit 0 { fr := mkFr [(0, LV.str x0)], lam := [], pushed := false } μ
theorem nfL134_1 (ρ : Rho) (x0 : List UInt8) (μ : Mu) : roundK E.P ρ H134 [(0, 0)] (codeAt E.P 134 [1, 0, 0, 0])
 { fr := mkFr [(0, LV.str x0)], lam := [], pushed := false } μ =
 cond (decide ((1 : Int) < (List.length x0 : Int))) (
 opt (strAt x0 (IntKind.wrap .i64 ((List.length x0 : Int) - (1 : Int)))) fun y1 =>
 cond (decide ((y1.toNat : Int) = (48 : Int))) (
 opt (cutA x0 (0 : Int) (IntKind.wrap .i64 ((List.length x0 : Int) - (1 : Int)))) fun s2 =>
 L134_1 ρ s2 μ) (
 some (XL134_1_0 x0 μ))) (
 some (XL134_1_0 x0 μ)) := by kernel_rfl
theorem nfXL134_1_0 (ρ : Rho) (x0 : List UInt8) (μ : Mu) : runK E.P ρ H134 [.block 0, .seq (codeAt E.P 134 [1, 1])] (XL134_1_0 x0 μ) (bodyEnd E.P (resOf E.P 134)) =
 some (.ret (LV.str x0) μ) := by kernel_rfl
theorem nf134 (ρ : Rho) (a : List UInt8) (μ : Mu) : callStep E ρ 134 [LV.str a] μ =
 opt (L134_1 ρ a μ) fun st3 => runK E.P ρ H134 [.block 0, .seq (codeAt E.P 134 [1, 1])] st3 (bodyEnd E.P (resOf E.P 134)) := by kernel_rfl
theorem nf135 (ρ : Rho) (a : List UInt8) (μ : Mu) : callStep E ρ 135 [LV.str a] μ =
 cond (decide (a = ([48] : List UInt8))) (
 some (.ret (LV.int .i64 (0 : Int)) μ)) (
 some (.ret (LV.int .i64 (List.length a : Int)) μ)) := by kernel_rfl
theorem nf147_0 (ρ : Rho) (al : Nat) (ai : Nat) (μ : Mu) : dcallStep E ρ 147 none [LV.cv (CV.ref al ai 0)] μ =
 some μ := by kernel_rfl
theorem nf147_1 (ρ : Rho) (e : Int) (al : Nat) (ai : Nat) (μ : Mu) : dcallStep E ρ 147 (some (CV.iface 162 (CV.agg [CV.int .i64 e]))) [LV.cv (CV.ref al ai 0)] μ =
 opt (obWrite E.P 25 (muOb μ al ai) 0 (LV.int .i64 e)) fun o1 =>
 some (muSet μ al ai o1) := by kernel_rfl
noncomputable def G148_6 (ρ : Rho) (x0l : Nat) (x0i : Nat) (x1 : Int) (x6 : Int) (o0_0 : Int) (o0_1 : Int) (o0_2 : List UInt8) (μ : Mu) : Option St := ρ.seg H148 [(4, 0), (5, 0)] (codeAt E.P 148 [1, 1, 1])
 { fr := mkFr [(0, LV.cv (CV.ref x0l x0i 0)), (1, LV.int .i64 x1), (4, LV.loc 0 0), (6, LV.int .u8 x6)], lam := [Ob.cells [LV.int .i64 o0_0, LV.int .i64 o0_1, LV.str o0_2]], pushed := false } μ
def XG148_6_0 (x5 : Int) (o0_0 : Int) (o0_1 : Int) (o0_2 : List UInt8) (μ : Mu) : St := .ret { fr := mkFr [(4, LV.loc 0 0), (5, LV.int .i64 x5)], lam := [Ob.cells [LV.int .i64 o0_0, LV.int .i64 o0_1, LV.str o0_2]], pushed := false } μ
def XG148_6_1 (pv : CV) (μ : Mu) : St := .panic pv { fr := mkFr [], lam := [], pushed := false } μ
noncomputable def G148_18 (ρ : Rho) (x14 : List UInt8) (x15 : Int) (o0_0 : Int) (o0_1 : Int) (o0_2 : List UInt8) (μ : Mu) : Option St := ρ.seg H148 [(0, 0), (1, 0), (4, 0)] (codeAt E.P 148 [1, 1, 1, 1, 0, 0, 1, 1, 1, 1, 1, 0, 1, 1])
 { fr := mkFr [(4, LV.loc 0 0), (14, LV.str x14), (15, LV.int .i64 x15)], lam := [Ob.cells [LV.int .i64 o0_0, LV.int .i64 o0_1, LV.str o0_2]], pushed := false } μ
def XG148_18_0 (x5 : Int) (o0_0 : Int) (o0_1 : Int) (o0_2 : List UInt8) (μ : Mu) : St := .ret { fr := mkFr [(4, LV.loc 0 0), (5, LV.int .i64 x5)], lam := [Ob.cells [LV.int .i64 o0_0, LV.int .i64 o0_1, LV.str o0_2]], pushed := false } μ
noncomputable def G148_23 (ρ : Rho) (x0l : Nat) (x0i : Nat) (x1 : Int) (o0_0 : Int) (o0_1 : Int) (o0_2 : List UInt8) (μ : Mu) : Option St := ρ.seg H148 [(4, 0), (5, 0)] (codeAt E.P 148 [1, 1, 1, 1, 1])
 { fr := mkFr [(0, LV.cv (CV.ref x0l x0i 0)), (1, LV.int .i64 x1), (4, LV.loc 0 0)], lam := [Ob.cells [LV.int .i64 o0_0, LV.int .i64 o0_1, LV.str o0_2]], pushed := false } μ
def XG148_23_0 (x5 : Int) (o0_0 : Int) (o0_1 : Int) (o0_2 : List UInt8) (μ : Mu) : St := .ret { fr := mkFr [(4, LV.loc 0 0), (5, LV.int .i64 x5)], lam := [Ob.cells [LV.int .i64 o0_0, LV.int .i64 o0_1, LV.str o0_2]], pushed := false } μ
def XG148_23_1 (pv : CV) (μ : Mu) : St := .panic pv { fr := mkFr [], lam := [], pushed := false } μ
theorem nfG148_18 (ρ : Rho) (x14 : List UInt8) (x15 : Int) (o0_0 : Int) (o0_1 : Int) (o0_2 : List UInt8) (μ : Mu) : segK E.P ρ H148 [(0, 0), (1, 0), (4, 0)] (codeAt E.P 148 [1, 1, 1, 1, 0, 0, 1, 1, 1, 1, 1, 0, 1, 1])
 { fr := mkFr [(4, LV.loc 0 0), (14, LV.str x14), (15, LV.int .i64 x15)], lam := [Ob.cells [LV.int .i64 o0_0, LV.int .i64 o0_1, LV.str o0_2]], pushed := false } μ =
 cond (decide (x14 = ([46, 84, 82, 85, 69, 46] : List UInt8))) (
 some (XG148_18_0 x15 (1 : Int) (5 : Int) x14 μ)) (
 cond (decide (x14 = ([46, 70, 65, 76, 83, 69, 46] : List UInt8))) (
 some (XG148_18_0 x15 (1 : Int) (5 : Int) x14 μ)) (
 some (XG148_18_0 x15 (2 : Int) (0 : Int) x14 μ))) := by kernel_rfl
theorem nfXG148_18_0 (ρ : Rho) (x5 : Int) (o0_0 : Int) (o0_1 : Int) (o0_2 : List UInt8) (μ : Mu) : runK E.P ρ H148 [.block 0, .seq (codeAt E.P 148 [1, 1, 1, 1, 1])] (XG148_18_0 x5 o0_0 o0_1 o0_2 μ) (segEnd H148 [(4, 0), (5, 0)]) =
 some (XG148_6_0 x5 o0_0 o0_1 o0_2 μ) := by kernel_rfl
theorem nfG148_23 (ρ : Rho) (x0l : Nat) (x0i : Nat) (x1 : Int) (o0_0 : Int) (o0_1 : Int) (o0_2 : List UInt8) (μ : Mu) : segK E.P ρ H148 [(4, 0), (5, 0)] (codeAt E.P 148 [1, 1, 1, 1, 1])
 { fr := mkFr [(0, LV.cv (CV.ref x0l x0i 0)), (1, LV.int .i64 x1), (4, LV.loc 0 0)], lam := [Ob.cells [LV.int .i64 o0_0, LV.int .i64 o0_1, LV.str o0_2]], pushed := false } μ =
 callK (ρ.call 174 [LV.cv (CV.ref x0l x0i 0), LV.int .i64 x1] μ) (fun v147 μ148 =>
 opt (getTup v147) fun xs151 =>
 opt (uncons xs151) fun q152 =>
 rd23 q152.1 fun n153 n154 s155 =>
 opt (uncons q152.2) fun q156 =>
 opt (getInt .i64 q156.1) fun n157 =>
 opt (isNilL q156.2) fun u158 =>
 some (XG148_23_0 n157 n153 n154 s155 μ148)) (fun v150 μ149 =>
 some (XG148_23_1 v150 μ149)) := by kernel_rfl
theorem nfXG148_23_0 (ρ : Rho) (x5 : Int) (o0_0 : Int) (o0_1 : Int) (o0_2 : List UInt8) (μ : Mu) : runK E.P ρ H148 [] (XG148_23_0 x5 o0_0 o0_1 o0_2 μ) (segEnd H148 [(4, 0), (5, 0)]) =
 some (XG148_6_0 x5 o0_0 o0_1 o0_2 μ) := by kernel_rfl
theorem nfXG148_23_1 (ρ : Rho) (pv : CV) (μ : Mu) : runK E.P ρ H148 [] (XG148_23_1 pv μ) (segEnd H148 [(4, 0), (5, 0)]) =
 some (XG148_6_1 pv μ) := by kernel_rfl
theorem nfG148_6 (ρ : Rho) (x0l : Nat) (x0i : Nat) (x1 : Int) (x6 : Int) (o0_0 : Int) (o0_1 : Int) (o0_2 : List UInt8) (μ : Mu) : segK E.P ρ H148 [(4, 0), (5, 0)] (codeAt E.P 148 [1, 1, 1])
 { fr := mkFr [(0, LV.cv (CV.ref x0l x0i 0)), (1, LV.int .i64 x1), (4, LV.loc 0 0), (6, LV.int .u8 x6)], lam := [Ob.cells [LV.int .i64 o0_0, LV.int .i64 o0_1, LV.str o0_2]], pushed := false } μ =
 callK (ρ.call 168 [LV.cv (CV.ref x0l x0i 0), LV.int .i64 (IntKind.wrap .i64 (x1 + (1 : Int)))] μ) (fun v28 μ29 =>
 opt (getTup v28) fun xs32 =>
 opt (uncons xs32) fun q33 =>
 opt (getInt .u8 q33.1) fun n34 =>
 opt (uncons q33.2) fun q35 =>
 opt (getInt .i64 q35.1) fun n36 =>
 opt (isNilL q35.2) fun u37 =>
 callK (ρ.call 90 [LV.int .u8 x6] μ29) (fun v38 μ39 =>
 opt (getBool v38) fun b42 =>
 cond (b42) (
 callK (ρ.call 169 [LV.cv (CV.ref x0l x0i 0), LV.int .i64 x1, LV.cv (CV.clo 93 [])] μ39) (fun v43 μ44 =>
 opt (getTup v43) fun xs47 =>
 opt (uncons xs47) fun q48 =>
 opt (getStr q48.1) fun s49 =>
 opt (uncons q48.2) fun q50 =>
 opt (getInt .i64 q50.1) fun n51 =>
 opt (isNilL q50.2) fun u52 =>
 cond (decide ((31 : Int) < (List.length s49 : Int))) (
 callK (ρ.call 170 [LV.int .i64 (4 : Int)] μ44) (fun v53 μ54 =>
 opt (getTup v53) fun xs57 =>
 opt (isNilL xs57) fun u58 =>
 callK (ρ.call 91 [LV.str s49] μ54) (fun v59 μ60 =>
 opt (getStr v59) fun s63 =>
 some (XG148_6_0 n51 (0 : Int) (0 : Int) s63 μ60)) (fun v62 μ61 =>
 some (XG148_6_1 v62 μ61))) (fun v56 μ55 =>
 some (XG148_6_1 v56 μ55))) (
 callK (ρ.call 91 [LV.str s49] μ44) (fun v64 μ65 =>
 opt (getStr v64) fun s68 =>
 some (XG148_6_0 n51 (0 : Int) (0 : Int) s68 μ65)) (fun v67 μ66 =>
 some (XG148_6_1 v67 μ66)))) (fun v46 μ45 =>
 some (XG148_6_1 v46 μ45))) (
 callK (ρ.call 132 [LV.int .u8 x6] μ39) (fun v69 μ70 =>
 opt (getBool v69) fun b73 =>
 cond (b73) (
 callK (ρ.call 171 [LV.cv (CV.ref x0l x0i 0), LV.int .i64 x1] μ70) (fun v74 μ75 =>
 opt (getTup v74) fun xs78 =>
 opt (uncons xs78) fun q79 =>
 rd23 q79.1 fun n80 n81 s82 =>
 opt (uncons q79.2) fun q83 =>
 opt (getInt .i64 q83.1) fun n84 =>
 opt (isNilL q83.2) fun u85 =>
 some (XG148_6_0 n84 n80 n81 s82 μ75)) (fun v77 μ76 =>
 some (XG148_6_1 v77 μ76))) (
 cond (decide (x6 = (46 : Int))) (
 callK (ρ.call 132 [LV.int .u8 n34] μ70) (fun v86 μ87 =>
 opt (getBool v86) fun b90 =>
 cond (b90) (
 callK (ρ.call 171 [LV.cv (CV.ref x0l x0i 0), LV.int .i64 x1] μ87) (fun v91 μ92 =>
 opt (getTup v91) fun xs95 =>
 opt (uncons xs95) fun q96 =>
 rd23 q96.1 fun n97 n98 s99 =>
 opt (uncons q96.2) fun q100 =>
 opt (getInt .i64 q100.1) fun n101 =>
 opt (isNilL q100.2) fun u102 =>
 some (XG148_6_0 n101 n97 n98 s99 μ92)) (fun v94 μ93 =>
 some (XG148_6_1 v94 μ93))) (
 cond (decide (x6 = (46 : Int))) (
 callK (ρ.call 172 [LV.cv (CV.ref x0l x0i 0), LV.int .i64 x1] μ87) (fun v103 μ104 =>
 opt (getTup v103) fun xs107 =>
 opt (uncons xs107) fun q108 =>
 opt (getStr q108.1) fun s109 =>
 opt (uncons q108.2) fun q110 =>
 opt (getInt .i64 q110.1) fun n111 =>
 opt (uncons q110.2) fun q112 =>
 opt (getBool q112.1) fun b113 =>
 opt (isNilL q112.2) fun u114 =>
 cond (!b113) (
 callK (ρ.call 170 [LV.int .i64 (7 : Int)] μ104) (fun v115 μ116 =>
 opt (getTup v115) fun xs119 =>
 opt (isNilL xs119) fun u120 =>
 opt (G148_18 ρ s109 n111 o0_0 o0_1 o0_2 μ116) fun st121 => runK E.P ρ H148 [.block 0, .seq (codeAt E.P 148 [1, 1, 1, 1, 1])] st121 (segEnd H148 [(4, 0), (5, 0)])) (fun v118 μ117 =>
 some (XG148_6_1 v118 μ117))) (
 opt (G148_18 ρ s109 n111 o0_0 o0_1 o0_2 μ104) fun st122 => runK E.P ρ H148 [.block 0, .seq (codeAt E.P 148 [1, 1, 1, 1, 1])] st122 (segEnd H148 [(4, 0), (5, 0)]))) (fun v106 μ105 =>
 some (XG148_6_1 v106 μ105))) (
 cond (decide (x6 = (39 : Int))) (
 callK (ρ.call 173 [LV.cv (CV.ref x0l x0i 0), LV.int .i64 x1] μ87) (fun v123 μ124 =>
 opt (getTup v123) fun xs127 =>
 opt (uncons xs127) fun q128 =>
 rd23 q128.1 fun n129 n130 s131 =>
 opt (uncons q128.2) fun q132 =>
 opt (getInt .i64 q132.1) fun n133 =>
 opt (isNilL q132.2) fun u134 =>
 some (XG148_6_0 n133 n129 n130 s131 μ124)) (fun v126 μ125 =>
 some (XG148_6_1 v126 μ125))) (
 cond (decide (x6 = (34 : Int))) (
 callK (ρ.call 173 [LV.cv (CV.ref x0l x0i 0), LV.int .i64 x1] μ87) (fun v135 μ136 =>
 opt (getTup v135) fun xs139 =>
 opt (uncons xs139) fun q140 =>
 rd23 q140.1 fun n141 n142 s143 =>
 opt (uncons q140.2) fun q144 =>
 opt (getInt .i64 q144.1) fun n145 =>
 opt (isNilL q144.2) fun u146 =>
 some (XG148_6_0 n145 n141 n142 s143 μ136)) (fun v138 μ137 =>
 some (XG148_6_1 v138 μ137))) (
 opt (G148_23 ρ x0l x0i x1 o0_0 o0_1 o0_2 μ87) fun st159 => runK E.P ρ H148 [] st159 (segEnd H148 [(4, 0), (5, 0)])))))) (fun v89 μ88 =>
 some (XG148_6_1 v89 μ88))) (
 cond (decide (x6 = (46 : Int))) (
 callK (ρ.call 172 [LV.cv (CV.ref x0l x0i 0), LV.int .i64 x1] μ70) (fun v160 μ161 =>
 opt (getTup v160) fun xs164 =>
 opt (uncons xs164) fun q165 =>
 opt (getStr q165.1) fun s166 =>
 opt (uncons q165.2) fun q167 =>
 opt (getInt .i64 q167.1) fun n168 =>
 opt (uncons q167.2) fun q169 =>
 opt (getBool q169.1) fun b170 =>
 opt (isNilL q169.2) fun u171 =>
 cond (!b170) (
 callK (ρ.call 170 [LV.int .i64 (7 : Int)] μ161) (fun v172 μ173 =>
 opt (getTup v172) fun xs176 =>
 opt (isNilL xs176) fun u177 =>
 opt (G148_18 ρ s166 n168 o0_0 o0_1 o0_2 μ173) fun st178 => runK E.P ρ H148 [.block 0, .seq (codeAt E.P 148 [1, 1, 1, 1, 1])] st178 (segEnd H148 [(4, 0), (5, 0)])) (fun v175 μ174 =>
 some (XG148_6_1 v175 μ174))) (
 opt (G148_18 ρ s166 n168 o0_0 o0_1 o0_2 μ161) fun st179 => runK E.P ρ H148 [.block 0, .seq (codeAt E.P 148 [1, 1, 1, 1, 1])] st179 (segEnd H148 [(4, 0), (5, 0)]))) (fun v163 μ162 =>
 some (XG148_6_1 v163 μ162))) (
 cond (decide (x6 = (39 : Int))) (
 callK (ρ.call 173 [LV.cv (CV.ref x0l x0i 0), LV.int .i64 x1] μ70) (fun v180 μ181 =>
 opt (getTup v180) fun xs184 =>
 opt (uncons xs184) fun q185 =>
 rd23 q185.1 fun n186 n187 s188 =>
 opt (uncons q185.2) fun q189 =>
 opt (getInt .i64 q189.1) fun n190 =>
 opt (isNilL q189.2) fun u191 =>
 some (XG148_6_0 n190 n186 n187 s188 μ181)) (fun v183 μ182 =>
 some (XG148_6_1 v183 μ182))) (
 cond (decide (x6 = (34 : Int))) (
 callK (ρ.call 173 [LV.cv (CV.ref x0l x0i 0), LV.int .i64 x1] μ70) (fun v192 μ193 =>
 opt (getTup v192) fun xs196 =>
 opt (uncons xs196) fun q197 =>
 rd23 q197.1 fun n198 n199 s200 =>
 opt (uncons q197.2) fun q201 =>
 opt (getInt .i64 q201.1) fun n202 =>
 opt (isNilL q201.2) fun u203 =>
 some (XG148_6_0 n202 n198 n199 s200 μ193)) (fun v195 μ194 =>
 some (XG148_6_1 v195 μ194))) (
 opt (G148_23 ρ x0l x0i x1 o0_0 o0_1 o0_2 μ70) fun st204 => runK E.P ρ H148 [] st204 (segEnd H148 [(4, 0), (5, 0)]))))))) (fun v72 μ71 =>
 some (XG148_6_1 v72 μ71)))) (fun v41 μ40 =>
 some (XG148_6_1 v41 μ40))) (fun v31 μ30 =>
 some (XG148_6_1 v31 μ30)) := by kernel_rfl
theorem nfXG148_6_0 (ρ : Rho) (x5 : Int) (o0_0 : Int) (o0_1 : Int) (o0_2 : List UInt8) (μ : Mu) : runK E.P ρ H148 [] (XG148_6_0 x5 o0_0 o0_1 o0_2 μ) (bodyEnd E.P (resOf E.P 148)) =
 some (.ret (LV.ltup [LV.cv (CV.agg [CV.int .i64 o0_0, CV.int .i64 o0_1, CV.str o0_2]), LV.int .i64 x5]) μ) := by kernel_rfl
theorem nfXG148_6_1 (ρ : Rho) (pv : CV) (μ : Mu) : runK E.P ρ H148 [] (XG148_6_1 pv μ) (bodyEnd E.P (resOf E.P 148)) =
 guardB (below (List.length μ) pv) (some (.panic pv μ)) := by kernel_rfl
theorem nf148 (ρ : Rho) (al : Nat) (ai : Nat) (b : Int) (μ : Mu) : callStep E ρ 148 [LV.cv (CV.ref al ai 0), LV.int .i64 b] μ =
 opt (obRead E.P 9 (muOb μ al ai) 0) fun v1 =>
 opt (getStr v1) fun s2 =>
 opt (strAt s2 b) fun y3 =>
 callK (ρ.call 166 [LV.cv (CV.ref al ai 0)] μ) (fun v4 μ5 =>
 opt (getBool v4) fun b8 =>
 cond (b8) (
 callK (ρ.call 132 [LV.int .u8 (y3.toNat : Int)] μ5) (fun v9 μ10 =>
 opt (getBool v9) fun b13 =>
 cond (b13) (
 callK (ρ.call 167 [LV.cv (CV.ref al ai 0), LV.int .i64 b] μ10) (fun v14 μ15 =>
 opt (getTup v14) fun xs18 =>
 opt (uncons xs18) fun q19 =>
 rd23 q19.1 fun n20 n21 s22 =>
 opt (uncons q19.2) fun q23 =>
 opt (getInt .i64 q23.1) fun n24 =>
 opt (uncons q23.2) fun q25 =>
 opt (getBool q25.1) fun b26 =>
 opt (isNilL q25.2) fun u27 =>
 cond (b26) (
 some (.ret (LV.ltup [LV.cv (CV.agg [CV.int .i64 n20, CV.int .i64 n21, CV.str s22]), LV.int .i64 n24]) μ15)) (
 opt (G148_6 ρ al ai b (y3.toNat : Int) (0 : Int) (0 : Int) ([] : List UInt8) μ15) fun st205 => runK E.P ρ H148 [] st205 (bodyEnd E.P (resOf E.P 148)))) (fun v17 μ16 =>
 guardB (below (List.length μ16) v17) (some (.panic v17 μ16)))) (
 opt (G148_6 ρ al ai b (y3.toNat : Int) (0 : Int) (0 : Int) ([] : List UInt8) μ10) fun st206 => runK E.P ρ H148 [] st206 (bodyEnd E.P (resOf E.P 148)))) (fun v12 μ11 =>
 guardB (below (List.length μ11) v12) (some (.panic v12 μ11)))) (
 opt (G148_6 ρ al ai b (y3.toNat : Int) (0 : Int) (0 : Int) ([] : List UInt8) μ5) fun st207 => runK E.P ρ H148 [] st207 (bodyEnd E.P (resOf E.P 148)))) (fun v7 μ6 =>
 guardB (below (List.length μ6) v7) (some (.panic v7 μ6))) := by kernel_rfl
noncomputable def G166_3 (ρ : Rho) (x0l : Nat) (x0i : Nat) (μ : Mu) : Option St := ρ.seg H166 [(2, 0)] (codeAt E.P 166 [1, 1])
 { fr := mkFr [(0, LV.cv (CV.ref x0l x0i 0))], lam := [], pushed := false } μ
def XG166_3_0 (x2 : Bool) (μ : Mu) : St := .ret { fr := mkFr [(2, LV.bool x2)], lam := [], pushed := false } μ
noncomputable def G166_5 (ρ : Rho) (x0l : Nat) (x0i : Nat) (μ : Mu) : Option St := ρ.seg H166 [(2, 0)] (codeAt E.P 166 [1, 1, 1])
 { fr := mkFr [(0, LV.cv (CV.ref x0l x0i 0))], lam := [], pushed := false } μ
def XG166_5_0 (x2 : Bool) (μ : Mu) : St := .ret { fr := mkFr [(2, LV.bool x2)], lam := [], pushed := false } μ
def XG166_5_1 (pv : CV) (μ : Mu) : St := .panic pv { fr := mkFr [], lam := [], pushed := false } μ
theorem nfG166_5 (ρ : Rho) (x0l : Nat) (x0i : Nat) (μ : Mu) : segK E.P ρ H166 [(2, 0)] (codeAt E.P 166 [1, 1, 1])
 { fr := mkFr [(0, LV.cv (CV.ref x0l x0i 0))], lam := [], pushed := false } μ =
 opt (obRead E.P 32 (muOb μ x0l x0i) 2) fun v5 =>
 opt (getSl v5) fun l6 =>
 opt (obRead E.P 32 (muOb μ x0l x0i) 2) fun v7 =>
 opt (getSl v7) fun l8 =>
 opt (slAt l6 (IntKind.wrap .i64 ((List.length l8 : Int) - (1 : Int)))) fun c9 =>
 rd23 (LV.cv c9) fun n10 n11 s12 =>
 cond (decide (n10 = (2 : Int))) (
 callK (ρ.call 50 [LV.osl [CV.str ([40] : List UInt8), CV.str ([44] : List UInt8), CV.str ([47] : List UInt8), CV.str ([61] : List UInt8)], LV.str s12] μ) (fun v13 μ14 =>
 opt (getBool v13) fun b17 =>
 some (XG166_5_0 b17 μ14)) (fun v16 μ15 =>
 some (XG166_5_1 v16 μ15))) (
 some (XG166_5_0 false μ)) := by kernel_rfl
theorem nfXG166_5_0 (ρ : Rho) (x2 : Bool) (μ : Mu) : runK E.P ρ H166 [] (XG166_5_0 x2 μ) (segEnd H166 [(2, 0)]) =
 some (XG166_3_0 x2 μ) := by kernel_rfl
theorem nfG166_3 (ρ : Rho) (x0l : Nat) (x0i : Nat) (μ : Mu) : segK E.P ρ H166 [(2, 0)] (codeAt E.P 166 [1, 1])
 { fr := mkFr [(0, LV.cv (CV.ref x0l x0i 0))], lam := [], pushed := false } μ =
 opt (obRead E.P 32 (muOb μ x0l x0i) 2) fun v3 =>
 opt (getSl v3) fun l4 =>
 cond (decide ((List.length l4 : Int) = (0 : Int))) (
 some (XG166_3_0 true μ)) (
 opt (G166_5 ρ x0l x0i μ) fun st18 => runK E.P ρ H166 [] st18 (segEnd H166 [(2, 0)])) := by kernel_rfl
theorem nfXG166_3_0 (ρ : Rho) (x2 : Bool) (μ : Mu) : runK E.P ρ H166 [] (XG166_3_0 x2 μ) (bodyEnd E.P (resOf E.P 166)) =
 some (.ret (LV.bool x2) μ) := by kernel_rfl
theorem nf166 (ρ : Rho) (al : Nat) (ai : Nat) (μ : Mu) : callStep E ρ 166 [LV.cv (CV.ref al ai 0)] μ =
 opt (obRead E.P 4 (muOb μ al ai) 1) fun v1 =>
 opt (getBool v1) fun b2 =>
 cond (!b2) (
 some (.ret (LV.bool false) μ)) (
 opt (G166_3 ρ al ai μ) fun st19 => runK E.P ρ H166 [] st19 (bodyEnd E.P (resOf E.P 166))) := by kernel_rfl
noncomputable def G167_6 (ρ : Rho) (x0l : Nat) (x0i : Nat) (x10 : Int) (x11 : Int) (o0_0 : Int) (o0_1 : Int) (o0_2 : List UInt8) (μ : Mu) : Option St := ρ.seg H167 [(4, 0), (5, 0), (6, 0)] (codeAt E.P 167 [1, 1, 1, 1, 1])
 { fr := mkFr [(0, LV.cv (CV.ref x0l x0i 0)), (4, LV.loc 0 0), (10, LV.int .i64 x10), (11, LV.int .i64 x11)], lam := [Ob.cells [LV.int .i64 o0_0, LV.int .i64 o0_1, LV.str o0_2]], pushed := false } μ
noncomputable def G167_8 (ρ : Rho) (x0l : Nat) (x0i : Nat) (x10 : Int) (x11 : Int) (o0_0 : Int) (o0_1 : Int) (o0_2 : List UInt8) (μ : Mu) : Option St := ρ.seg H167 [(4, 0), (5, 0), (6, 0)] (codeAt E.P 167 [1, 1, 1, 1, 1, 1])
 { fr := mkFr [(0, LV.cv (CV.ref x0l x0i 0)), (4, LV.loc 0 0), (10, LV.int .i64 x10), (11, LV.int .i64 x11)], lam := [Ob.cells [LV.int .i64 o0_0, LV.int .i64 o0_1, LV.str o0_2]], pushed := false } μ
def XG167_8_0 (x5 : Int) (x6 : Bool) (o0_0 : Int) (o0_1 : Int) (o0_2 : List UInt8) (μ : Mu) : St := .ret { fr := mkFr [(4, LV.loc 0 0), (5, LV.int .i64 x5), (6, LV.bool x6)], lam := [Ob.cells [LV.int .i64 o0_0, LV.int .i64 o0_1, LV.str o0_2]], pushed := false } μ
def XG167_8_1 (pv : CV) (μ : Mu) : St := .panic pv { fr := mkFr [], lam := [], pushed := false } μ
def XG167_6_0 (x5 : Int) (x6 : Bool) (o0_0 : Int) (o0_1 : Int) (o0_2 : List UInt8) (μ : Mu) : St := .ret { fr := mkFr [(4, LV.loc 0 0), (5, LV.int .i64 x5), (6, LV.bool x6)], lam := [Ob.cells [LV.int .i64 o0_0, LV.int .i64 o0_1, LV.str o0_2]], pushed := false } μ
def XG167_6_1 (pv : CV) (μ : Mu) : St := .panic pv { fr := mkFr [], lam := [], pushed := false } μ
theorem nfG167_8 (ρ : Rho) (x0l : Nat) (x0i : Nat) (x10 : Int) (x11 : Int) (o0_0 : Int) (o0_1 : Int) (o0_2 : List UInt8) (μ : Mu) : segK E.P ρ H167 [(4, 0), (5, 0), (6, 0)] (codeAt E.P 167 [1, 1, 1, 1, 1, 1])
 { fr := mkFr [(0, LV.cv (CV.ref x0l x0i 0)), (4, LV.loc 0 0), (10, LV.int .i64 x10), (11, LV.int .i64 x11)], lam := [Ob.cells [LV.int .i64 o0_0, LV.int .i64 o0_1, LV.str o0_2]], pushed := false } μ =
 callK (ρ.call 189 [LV.cv (CV.ref x0l x0i 0), LV.int .i64 x10, LV.int .i64 (IntKind.wrap .i64 (x10 + x11))] μ) (fun v39 μ40 =>
 opt (getTup v39) fun xs43 =>
 opt (isNilL xs43) fun u44 =>
 opt (obRead E.P 9 (muOb μ40 x0l x0i) 0) fun v45 =>
 opt (getStr v45) fun s46 =>
 opt (cutA s46 x10 (IntKind.wrap .i64 (x10 + x11))) fun s47 =>
 callK (ρ.call 86 [LV.str s47] μ40) (fun v48 μ49 =>
 rd23 v48 fun n52 n53 s54 =>
 some (XG167_8_0 (IntKind.wrap .i64 (x10 + x11)) true n52 n53 s54 μ49)) (fun v51 μ50 =>
 some (XG167_8_1 v51 μ50))) (fun v42 μ41 =>
 some (XG167_8_1 v42 μ41)) := by kernel_rfl
theorem nfXG167_8_0 (ρ : Rho) (x5 : Int) (x6 : Bool) (o0_0 : Int) (o0_1 : Int) (o0_2 : List UInt8) (μ : Mu) : runK E.P ρ H167 [] (XG167_8_0 x5 x6 o0_0 o0_1 o0_2 μ) (segEnd H167 [(4, 0), (5, 0), (6, 0)]) =
 some (XG167_6_0 x5 x6 o0_0 o0_1 o0_2 μ) := by kernel_rfl
theorem nfG167_6 (ρ : Rho) (x0l : Nat) (x0i : Nat) (x10 : Int) (x11 : Int) (o0_0 : Int) (o0_1 : Int) (o0_2 : List UInt8) (μ : Mu) : segK E.P ρ H167 [(4, 0), (5, 0), (6, 0)] (codeAt E.P 167 [1, 1, 1, 1, 1])
 { fr := mkFr [(0, LV.cv (CV.ref x0l x0i 0)), (4, LV.loc 0 0), (10, LV.int .i64 x10), (11, LV.int .i64 x11)], lam := [Ob.cells [LV.int .i64 o0_0, LV.int .i64 o0_1, LV.str o0_2]], pushed := false } μ =
 opt (obRead E.P 9 (muOb μ x0l x0i) 0) fun v31 =>
 opt (getStr v31) fun s32 =>
 cond (decide ((List.length s32 : Int) < IntKind.wrap .i64 (x10 + x11))) (
 callK (ρ.call 170 [LV.int .i64 (7 : Int)] μ) (fun v33 μ34 =>
 opt (getTup v33) fun xs37 =>
 opt (isNilL xs37) fun u38 =>
 opt (G167_8 ρ x0l x0i x10 x11 o0_0 o0_1 o0_2 μ34) fun st55 => runK E.P ρ H167 [] st55 (segEnd H167 [(4, 0), (5, 0), (6, 0)])) (fun v36 μ35 =>
 some (XG167_6_1 v36 μ35))) (
 opt (G167_8 ρ x0l x0i x10 x11 o0_0 o0_1 o0_2 μ) fun st56 => runK E.P ρ H167 [] st56 (segEnd H167 [(4, 0), (5, 0), (6, 0)])) := by kernel_rfl
theorem nfXG167_6_0 (ρ : Rho) (x5 : Int) (x6 : Bool) (o0_0 : Int) (o0_1 : Int) (o0_2 : List UInt8) (μ : Mu) : runK E.P ρ H167 [] (XG167_6_0 x5 x6 o0_0 o0_1 o0_2 μ) (bodyEnd E.P (resOf E.P 167)) =
 some (.ret (LV.ltup [LV.cv (CV.agg [CV.int .i64 o0_0, CV.int .i64 o0_1, CV.str o0_2]), LV.int .i64 x5, LV.bool x6]) μ) := by kernel_rfl
theorem nfXG167_6_1 (ρ : Rho) (pv : CV) (μ : Mu) : runK E.P ρ H167 [] (XG167_6_1 pv μ) (bodyEnd E.P (resOf E.P 167)) =
 guardB (below (List.length μ) pv) (some (.panic pv μ)) := by kernel_rfl
theorem nf167 (ρ : Rho) (al : Nat) (ai : Nat) (b : Int) (μ : Mu) : callStep E ρ 167 [LV.cv (CV.ref al ai 0), LV.int .i64 b] μ =
 callK (ρ.call 169 [LV.cv (CV.ref al ai 0), LV.int .i64 b, LV.cv (CV.clo 132 [])] μ) (fun v1 μ2 =>
 opt (getTup v1) fun xs5 =>
 opt (uncons xs5) fun q6 =>
 opt (getStr q6.1) fun s7 =>
 opt (uncons q6.2) fun q8 =>
 opt (getInt .i64 q8.1) fun n9 =>
 opt (isNilL q8.2) fun u10 =>
 callK (ρ.call 168 [LV.cv (CV.ref al ai 0), LV.int .i64 n9] μ2) (fun v11 μ12 =>
 opt (getTup v11) fun xs15 =>
 opt (uncons xs15) fun q16 =>
 opt (getInt .u8 q16.1) fun n17 =>
 opt (uncons q16.2) fun q18 =>
 opt (getInt .i64 q18.1) fun n19 =>
 opt (isNilL q18.2) fun u20 =>
 callK (ρ.call 45 [LV.str s7] μ12) (fun v21 μ22 =>
 opt (getTup v21) fun xs25 =>
 opt (uncons xs25) fun q26 =>
 opt (getInt .i64 q26.1) fun n27 =>
 opt (uncons q26.2) fun q28 =>
 opt (getCv q28.1) fun c29 =>
 opt (isNilL q28.2) fun u30 =>
 cond (decide ((2 : Int) < (List.length s7 : Int))) (
 some (.ret (LV.ltup [LV.cv (CV.agg [CV.int .i64 (0 : Int), CV.int .i64 (0 : Int), CV.str ([] : List UInt8)]), LV.int .i64 b, LV.bool false]) μ22)) (
 cond (decide (n27 < (1 : Int))) (
 some (.ret (LV.ltup [LV.cv (CV.agg [CV.int .i64 (0 : Int), CV.int .i64 (0 : Int), CV.str ([] : List UInt8)]), LV.int .i64 b, LV.bool false]) μ22)) (
 cond (decide ((60 : Int) < n27)) (
 some (.ret (LV.ltup [LV.cv (CV.agg [CV.int .i64 (0 : Int), CV.int .i64 (0 : Int), CV.str ([] : List UInt8)]), LV.int .i64 b, LV.bool false]) μ22)) (
 cond (!decide (n17 = (72 : Int))) (
 cond (!decide (n17 = (104 : Int))) (
 some (.ret (LV.ltup [LV.cv (CV.agg [CV.int .i64 (0 : Int), CV.int .i64 (0 : Int), CV.str ([] : List UInt8)]), LV.int .i64 b, LV.bool false]) μ22)) (
 opt (G167_6 ρ al ai n19 n27 (0 : Int) (0 : Int) ([] : List UInt8) μ22) fun st57 => runK E.P ρ H167 [] st57 (bodyEnd E.P (resOf E.P 167)))) (
 opt (G167_6 ρ al ai n19 n27 (0 : Int) (0 : Int) ([] : List UInt8) μ22) fun st58 => runK E.P ρ H167 [] st58 (bodyEnd E.P (resOf E.P 167))))))) (fun v24 μ23 =>
 guardB (below (List.length μ23) v24) (some (.panic v24 μ23)))) (fun v14 μ13 =>
 guardB (below (List.length μ13) v14) (some (.panic v14 μ13)))) (fun v4 μ3 =>
 guardB (below (List.length μ3) v4) (some (.panic v4 μ3))) := by kernel_rfl
noncomputable def G168_4 (ρ : Rho) (x0l : Nat) (x0i : Nat) (x1 : Int) (μ : Mu) : Option St := ρ.seg H168 [(4, 0), (5, 0)] (codeAt E.P 168 [1, 1, 1])
 { fr := mkFr [(0, LV.cv (CV.ref x0l x0i 0)), (1, LV.int .i64 x1)], lam := [], pushed := false } μ
def XG168_4_0 (x4 : Int) (x5 : Int) (μ : Mu) : St := .ret { fr := mkFr [(4, LV.int .u8 x4), (5, LV.int .i64 x5)], lam := [], pushed := false } μ
theorem nfG168_4 (ρ : Rho) (x0l : Nat) (x0i : Nat) (x1 : Int) (μ : Mu) : segK E.P ρ H168 [(4, 0), (5, 0)] (codeAt E.P 168 [1, 1, 1])
 { fr := mkFr [(0, LV.cv (CV.ref x0l x0i 0)), (1, LV.int .i64 x1)], lam := [], pushed := false } μ =
 opt (obRead E.P 9 (muOb μ x0l x0i) 0) fun v8 =>
 opt (getStr v8) fun s9 =>
 opt (strAt s9 x1) fun y10 =>
 some (XG168_4_0 (y10.toNat : Int) (IntKind.wrap .i64 (x1 + (1 : Int))) μ) := by kernel_rfl
theorem nfXG168_4_0 (ρ : Rho) (x4 : Int) (x5 : Int) (μ : Mu) : runK E.P ρ H168 [] (XG168_4_0 x4 x5 μ) (bodyEnd E.P (resOf E.P 168)) =
 some (.ret (LV.ltup [LV.int .u8 x4, LV.int .i64 x5]) μ) := by kernel_rfl
theorem nf168 (ρ : Rho) (al : Nat) (ai : Nat) (b : Int) (μ : Mu) : callStep E ρ 168 [LV.cv (CV.ref al ai 0), LV.int .i64 b] μ =
 callK (ρ.call 190 [LV.cv (CV.ref al ai 0), LV.int .i64 b] μ) (fun v1 μ2 =>
 opt (getInt .i64 v1) fun n5 =>
 opt (obRead E.P 9 (muOb μ2 al ai) 0) fun v6 =>
 opt (getStr v6) fun s7 =>
 cond (decide ((List.length s7 : Int) ≤ n5)) (
 some (.ret (LV.ltup [LV.int .u8 (0 : Int), LV.int .i64 n5]) μ2)) (
 opt (G168_4 ρ al ai n5 μ2) fun st11 => runK E.P ρ H168 [] st11 (bodyEnd E.P (resOf E.P 168)))) (fun v4 μ3 =>
 guardB (below (List.length μ3) v4) (some (.panic v4 μ3))) := by kernel_rfl
noncomputable def L169_2 (ρ : Rho) (x0l : Nat) (x0i : Nat) (x1 : Int) (x2f : FuncId) (x8 : List CV) (μ : Mu) : Option St := ρ.loop H169 [] (codeAt E.P 169 [1, 1, 0, 0])
 { fr := mkFr [(0, LV.cv (CV.ref x0l x0i 0)), (1, LV.int .i64 x1), (2, LV.cv (CV.clo x2f [])), (8, LV.osl x8)], lam := [], pushed := false } μ
def XL169_2_0 (x6 : List UInt8) (x7 : Int) (μ : Mu) : St := .ret { fr := mkFr [(6, LV.str x6), (7, LV.int .i64 x7)], lam := [], pushed := false } μ
noncomputable def G169_5 (ρ : Rho) (x0l : Nat) (x0i : Nat) (x2f : FuncId) (x8 : List CV) (x9 : Int) (x10 : Int) (μ : Mu) : Option St := ρ.seg H169 [(0, 0), (1, 0), (2, 0), (8, 1)] (codeAt E.P 169 [1, 1, 0, 0, 0, 1, 1])
 { fr := mkFr [(0, LV.cv (CV.ref x0l x0i 0)), (2, LV.cv (CV.clo x2f [])), (8, LV.osl x8), (9, LV.int .u8 x9), (10, LV.int .i64 x10)], lam := [], pushed := false } μ
def XG169_5_0 (x0l : Nat) (x0i : Nat) (x1 : Int) (x2f : FuncId) (x8 : List CV) (μ : Mu) : St := .norm { fr := mkFr [(0, LV.cv (CV.ref x0l x0i 0)), (1, LV.int .i64 x1), (2, LV.cv (CV.clo x2f [])), (8, LV.osl x8)], lam := [], pushed := false } μ
def XL169_2_1 (pv : CV) (μ : Mu) : St := .panic pv { fr := mkFr [], lam := [], pushed := false } μ
theorem nfG169_5 (ρ : Rho) (x0l : Nat) (x0i : Nat) (x2f : FuncId) (x8 : List CV) (x9 : Int) (x10 : Int) (μ : Mu) : segK E.P ρ H169 [(0, 0), (1, 0), (2, 0), (8, 1)] (codeAt E.P 169 [1, 1, 0, 0, 0, 1, 1])
 { fr := mkFr [(0, LV.cv (CV.ref x0l x0i 0)), (2, LV.cv (CV.clo x2f [])), (8, LV.osl x8), (9, LV.int .u8 x9), (10, LV.int .i64 x10)], lam := [], pushed := false } μ =
 guardB (appOK 1 x8 [CV.int .u8 x9]) (
 some (XG169_5_0 x0l x0i x10 x2f (x8 ++ [CV.int .u8 x9]) μ)) := by kernel_rfl
theorem nfXG169_5_0 (ρ : Rho) (x0l : Nat) (x0i : Nat) (x1 : Int) (x2f : FuncId) (x8 : List CV) (μ : Mu) : runK E.P ρ H169 [.block 1] (XG169_5_0 x0l x0i x1 x2f x8 μ) (roundEnd E.P ρ H169 [] (codeAt E.P 169 [1, 1, 0, 0])) =
 L169_2 ρ x0l x0i x1 x2f x8 μ := by kernel_rfl
theorem nfL169_2 (ρ : Rho) (x0l : Nat) (x0i : Nat) (x1 : Int) (x2f : FuncId) (x8 : List CV) (μ : Mu) : roundK E.P ρ H169 [] (codeAt E.P 169 [1, 1, 0, 0])
 { fr := mkFr [(0, LV.cv (CV.ref x0l x0i 0)), (1, LV.int .i64 x1), (2, LV.cv (CV.clo x2f [])), (8, LV.osl x8)], lam := [], pushed := false } μ =
 callK (ρ.call 168 [LV.cv (CV.ref x0l x0i 0), LV.int .i64 x1] μ) (fun v1 μ2 =>
 opt (getTup v1) fun xs5 =>
 opt (uncons xs5) fun q6 =>
 opt (getInt .u8 q6.1) fun n7 =>
 opt (uncons q6.2) fun q8 =>
 opt (getInt .i64 q8.1) fun n9 =>
 opt (isNilL q8.2) fun u10 =>
 cond (decide (n7 = (0 : Int))) (
 opt (byteCells x8) fun s11 =>
 some (XL169_2_0 s11 x1 μ2)) (
 callK (ρ.call x2f [LV.int .u8 n7] μ2) (fun v12 μ13 =>
 opt (getBool v12) fun b16 =>
 cond (!b16) (
 opt (byteCells x8) fun s17 =>
 some (XL169_2_0 s17 x1 μ13)) (
 opt (G169_5 ρ x0l x0i x2f x8 n7 n9 μ13) fun st18 => runK E.P ρ H169 [.block 1] st18 (roundEnd E.P ρ H169 [] (codeAt E.P 169 [1, 1, 0, 0])))) (fun v15 μ14 =>
 some (XL169_2_1 v15 μ14)))) (fun v4 μ3 =>
 some (XL169_2_1 v4 μ3)) := by kernel_rfl
theorem nfXL169_2_0 (ρ : Rho) (x6 : List UInt8) (x7 : Int) (μ : Mu) : runK E.P ρ H169 [.block 0] (XL169_2_0 x6 x7 μ) (bodyEnd E.P (resOf E.P 169)) =
 some (.ret (LV.ltup [LV.str x6, LV.int .i64 x7]) μ) := by kernel_rfl
theorem nf169 (ρ : Rho) (al : Nat) (ai : Nat) (b : Int) (cf : FuncId) (μ : Mu) : callStep E ρ 169 [LV.cv (CV.ref al ai 0), LV.int .i64 b, LV.cv (CV.clo cf [])] μ =
 opt (L169_2 ρ al ai b cf [] μ) fun st19 => runK E.P ρ H169 [.block 0] st19 (bodyEnd E.P (resOf E.P 169)) := by kernel_rfl
theorem nf170 (ρ : Rho) (a : Int) (μ : Mu) : callStep E ρ 170 [LV.int .i64 a] μ =
 some (.panic (CV.iface 162 (CV.agg [CV.int .i64 a])) μ) := by kernel_rfl
noncomputable def G171_9 (ρ : Rho) (x0l : Nat) (x0i : Nat) (x1 : Int) (x6 : List UInt8) (x7 : List UInt8) (x8 : Bool) (o0_0 : Int) (o0_1 : Int) (o0_2 : List UInt8) (μ : Mu) : Option St := ρ.seg H171 [(4, 0), (5, 0)] (codeAt E.P 171 [1, 1, 1, 1])
 { fr := mkFr [(0, LV.cv (CV.ref x0l x0i 0)), (1, LV.int .i64 x1), (4, LV.loc 0 0), (6, LV.str x6), (7, LV.str x7), (8, LV.bool x8)], lam := [Ob.cells [LV.int .i64 o0_0, LV.int .i64 o0_1, LV.str o0_2]], pushed := false } μ
def XG171_9_0 (x5 : Int) (o0_0 : Int) (o0_1 : Int) (o0_2 : List UInt8) (μ : Mu) : St := .ret { fr := mkFr [(4, LV.loc 0 0), (5, LV.int .i64 x5)], lam := [Ob.cells [LV.int .i64 o0_0, LV.int .i64 o0_1, LV.str o0_2]], pushed := false } μ
def XG171_9_1 (pv : CV) (μ : Mu) : St := .panic pv { fr := mkFr [], lam := [], pushed := false } μ
noncomputable def G171_12 (ρ : Rho) (x1 : Int) (x6 : List UInt8) (x7 : List UInt8) (x14 : Int) (x15 : List UInt8) (x16 : Int) (x17 : Bool) (o0_0 : Int) (o0_1 : Int) (o0_2 : List UInt8) (μ : Mu) : Option St := ρ.seg H171 [(4, 0), (5, 0)] (codeAt E.P 171 [1, 1, 1, 1, 1, 1])
 { fr := mkFr [(1, LV.int .i64 x1), (4, LV.loc 0 0), (6, LV.str x6), (7, LV.str x7), (14, LV.int .u8 x14), (15, LV.str x15), (16, LV.int .i64 x16), (17, LV.bool x17)], lam := [Ob.cells [LV.int .i64 o0_0, LV.int .i64 o0_1, LV.str o0_2]], pushed := false } μ
noncomputable def G171_14 (ρ : Rho) (x1 : Int) (x6 : List UInt8) (x7 : List UInt8) (x14 : Int) (x15 : List UInt8) (x17 : Bool) (o0_0 : Int) (o0_1 : Int) (o0_2 : List UInt8) (μ : Mu) : Option St := ρ.seg H171 [(4, 0), (5, 0)] (codeAt E.P 171 [1, 1, 1, 1, 1, 1, 1])
 { fr := mkFr [(1, LV.int .i64 x1), (4, LV.loc 0 0), (6, LV.str x6), (7, LV.str x7), (14, LV.int .u8 x14), (15, LV.str x15), (17, LV.bool x17)], lam := [Ob.cells [LV.int .i64 o0_0, LV.int .i64 o0_1, LV.str o0_2]], pushed := false } μ
noncomputable def G171_16 (ρ : Rho) (x1 : Int) (x6 : List UInt8) (x7 : List UInt8) (x14 : Int) (x15 : List UInt8) (x17 : Bool) (o0_0 : Int) (o0_1 : Int) (o0_2 : List UInt8) (μ : Mu) : Option St := ρ.seg H171 [(4, 0), (5, 0)] (codeAt E.P 171 [1, 1, 1, 1, 1, 1, 1, 1])
 { fr := mkFr [(1, LV.int .i64 x1), (4, LV.loc 0 0), (6, LV.str x6), (7, LV.str x7), (14, LV.int .u8 x14), (15, LV.str x15), (17, LV.bool x17)], lam := [Ob.cells [LV.int .i64 o0_0, LV.int .i64 o0_1, LV.str o0_2]], pushed := false } μ
noncomputable def G171_21 (ρ : Rho) (x1 : Int) (x14 : Int) (x17 : Bool) (x18 : List UInt8) (x19 : List UInt8) (o0_0 : Int) (o0_1 : Int) (o0_2 : List UInt8) (μ : Mu) : Option St := ρ.seg H171 [(4, 0), (5, 0)] (codeAt E.P 171 [1, 1, 1, 1, 1, 1, 1, 1, 1, 1, 1])
 { fr := mkFr [(1, LV.int .i64 x1), (4, LV.loc 0 0), (14, LV.int .u8 x14), (17, LV.bool x17), (18, LV.str x18), (19, LV.str x19)], lam := [Ob.cells [LV.int .i64 o0_0, LV.int .i64 o0_1, LV.str o0_2]], pushed := false } μ
def XG171_21_0 (x5 : Int) (o0_0 : Int) (o0_1 : Int) (o0_2 : List UInt8) (μ : Mu) : St := .ret { fr := mkFr [(4, LV.loc 0 0), (5, LV.int .i64 x5)], lam := [Ob.cells [LV.int .i64 o0_0, LV.int .i64 o0_1, LV.str o0_2]], pushed := false } μ
noncomputable def G171_23 (ρ : Rho) (x1 : Int) (x18 : List UInt8) (x19 : List UInt8) (o0_0 : Int) (o0_1 : Int) (o0_2 : List UInt8) (μ : Mu) : Option St := ρ.seg H171 [(4, 0), (5, 0)] (codeAt E.P 171 [1, 1, 1, 1, 1, 1, 1, 1, 1, 1, 1, 1])
 { fr := mkFr [(1, LV.int .i64 x1), (4, LV.loc 0 0), (18, LV.str x18), (19, LV.str x19)], lam := [Ob.cells [LV.int .i64 o0_0, LV.int .i64 o0_1, LV.str o0_2]], pushed := false } μ
def XG171_23_0 (x5 : Int) (o0_0 : Int) (o0_1 : Int) (o0_2 : List UInt8) (μ : Mu) : St := .ret { fr := mkFr [(4, LV.loc 0 0), (5, LV.int .i64 x5)], lam := [Ob.cells [LV.int .i64 o0_0, LV.int .i64 o0_1, LV.str o0_2]], pushed := false } μ
def XG171_16_0 (x5 : Int) (o0_0 : Int) (o0_1 : Int) (o0_2 : List UInt8) (μ : Mu) : St := .ret { fr := mkFr [(4, LV.loc 0 0), (5, LV.int .i64 x5)], lam := [Ob.cells [LV.int .i64 o0_0, LV.int .i64 o0_1, LV.str o0_2]], pushed := false } μ
def XG171_16_1 (pv : CV) (μ : Mu) : St := .panic pv { fr := mkFr [], lam := [], pushed := false } μ
def XG171_14_0 (x5 : Int) (o0_0 : Int) (o0_1 : Int) (o0_2 : List UInt8) (μ : Mu) : St := .ret { fr := mkFr [(4, LV.loc 0 0), (5, LV.int .i64 x5)], lam := [Ob.cells [LV.int .i64 o0_0, LV.int .i64 o0_1, LV.str o0_2]], pushed := false } μ
def XG171_14_1 (pv : CV) (μ : Mu) : St := .panic pv { fr := mkFr [], lam := [], pushed := false } μ
def XG171_12_0 (x5 : Int) (o0_0 : Int) (o0_1 : Int) (o0_2 : List UInt8) (μ : Mu) : St := .ret { fr := mkFr [(4, LV.loc 0 0), (5, LV.int .i64 x5)], lam := [Ob.cells [LV.int .i64 o0_0, LV.int .i64 o0_1, LV.str o0_2]], pushed := false } μ
def XG171_12_1 (pv : CV) (μ : Mu) : St := .panic pv { fr := mkFr [], lam := [], pushed := false } μ
theorem nfG171_23 (ρ : Rho) (x1 : Int) (x18 : List UInt8) (x19 : List UInt8) (o0_0 : Int) (o0_1 : Int) (o0_2 : List UInt8) (μ : Mu) : segK E.P ρ H171 [(4, 0), (5, 0)] (codeAt E.P 171 [1, 1, 1, 1, 1, 1, 1, 1, 1, 1, 1, 1])
 { fr := mkFr [(1, LV.int .i64 x1), (4, LV.loc 0 0), (18, LV.str x18), (19, LV.str x19)], lam := [Ob.cells [LV.int .i64 o0_0, LV.int .i64 o0_1, LV.str o0_2]], pushed := false } μ =
 cond (!decide (x19 = ([48] : List UInt8))) (
 guardB (small (List.length ([69] : List UInt8) + List.length x19)) (
 guardB (small (List.length x18 + List.length (([69] : List UInt8) ++ x19))) (
 some (XG171_23_0 x1 (1 : Int) (1 : Int) (x18 ++ (([69] : List UInt8) ++ x19)) μ)))) (
 some (XG171_23_0 x1 (1 : Int) (1 : Int) x18 μ)) := by kernel_rfl
theorem nfXG171_23_0 (ρ : Rho) (x5 : Int) (o0_0 : Int) (o0_1 : Int) (o0_2 : List UInt8) (μ : Mu) : runK E.P ρ H171 [] (XG171_23_0 x5 o0_0 o0_1 o0_2 μ) (segEnd H171 [(4, 0), (5, 0)]) =
 some (XG171_21_0 x5 o0_0 o0_1 o0_2 μ) := by kernel_rfl
theorem nfG171_21 (ρ : Rho) (x1 : Int) (x14 : Int) (x17 : Bool) (x18 : List UInt8) (x19 : List UInt8) (o0_0 : Int) (o0_1 : Int) (o0_2 : List UInt8) (μ : Mu) : segK E.P ρ H171 [(4, 0), (5, 0)] (codeAt E.P 171 [1, 1, 1, 1, 1, 1, 1, 1, 1, 1, 1])
 { fr := mkFr [(1, LV.int .i64 x1), (4, LV.loc 0 0), (14, LV.int .u8 x14), (17, LV.bool x17), (18, LV.str x18), (19, LV.str x19)], lam := [Ob.cells [LV.int .i64 o0_0, LV.int .i64 o0_1, LV.str o0_2]], pushed := false } μ =
 cond (decide (x14 = (68 : Int))) (
 cond (x17) (
 guardB (small (List.length x18 + List.length ([68] : List UInt8))) (
 guardB (small (List.length (x18 ++ ([68] : List UInt8)) + List.length x19)) (
 some (XG171_21_0 x1 (1 : Int) (2 : Int) ((x18 ++ ([68] : List UInt8)) ++ x19) μ)))) (
 opt (G171_23 ρ x1 x18 x19 o0_0 o0_1 o0_2 μ) fun st100 => runK E.P ρ H171 [] st100 (segEnd H171 [(4, 0), (5, 0)]))) (
 opt (G171_23 ρ x1 x18 x19 o0_0 o0_1 o0_2 μ) fun st101 => runK E.P ρ H171 [] st101 (segEnd H171 [(4, 0), (5, 0)])) := by kernel_rfl
theorem nfXG171_21_0 (ρ : Rho) (x5 : Int) (o0_0 : Int) (o0_1 : Int) (o0_2 : List UInt8) (μ : Mu) : runK E.P ρ H171 [] (XG171_21_0 x5 o0_0 o0_1 o0_2 μ) (segEnd H171 [(4, 0), (5, 0)]) =
 some (XG171_16_0 x5 o0_0 o0_1 o0_2 μ) := by kernel_rfl
theorem nfG171_16 (ρ : Rho) (x1 : Int) (x6 : List UInt8) (x7 : List UInt8) (x14 : Int) (x15 : List UInt8) (x17 : Bool) (o0_0 : Int) (o0_1 : Int) (o0_2 : List UInt8) (μ : Mu) : segK E.P ρ H171 [(4, 0), (5, 0)] (codeAt E.P 171 [1, 1, 1, 1, 1, 1, 1, 1])
 { fr := mkFr [(1, LV.int .i64 x1), (4, LV.loc 0 0), (6, LV.str x6), (7, LV.str x7), (14, LV.int .u8 x14), (15, LV.str x15), (17, LV.bool x17)], lam := [Ob.cells [LV.int .i64 o0_0, LV.int .i64 o0_1, LV.str o0_2]], pushed := false } μ =
 callK (ρ.call 65 [LV.str x6, LV.bool true] μ) (fun v75 μ76 =>
 opt (getStr v75) fun s79 =>
 guardB (small (List.length s79 + List.length ([46] : List UInt8))) (
 callK (ρ.call 65 [LV.str x7, LV.bool false] μ76) (fun v80 μ81 =>
 opt (getStr v80) fun s84 =>
 guardB (small (List.length (s79 ++ ([46] : List UInt8)) + List.length s84)) (
 cond (x17) (
 callK (ρ.call 45 [LV.str x15] μ81) (fun v85 μ86 =>
 opt (getTup v85) fun xs89 =>
 opt (uncons xs89) fun q90 =>
 opt (getInt .i64 q90.1) fun n91 =>
 opt (uncons q90.2) fun q92 =>
 opt (getCv q92.1) fun c93 =>
 opt (isNilL q92.2) fun u94 =>
 callK (ρ.call 66 [LV.int .i64 n91] μ86) (fun v95 μ96 =>
 opt (getStr v95) fun s99 =>
 opt (G171_21 ρ x1 x14 x17 ((s79 ++ ([46] : List UInt8)) ++ s84) s99 o0_0 o0_1 o0_2 μ96) fun st102 => runK E.P ρ H171 [] st102 (segEnd H171 [(4, 0), (5, 0)])) (fun v98 μ97 =>
 some (XG171_16_1 v98 μ97))) (fun v88 μ87 =>
 some (XG171_16_1 v88 μ87))) (
 opt (G171_21 ρ x1 x14 x17 ((s79 ++ ([46] : List UInt8)) ++ s84) ([48] : List UInt8) o0_0 o0_1 o0_2 μ81) fun st103 => runK E.P ρ H171 [] st103 (segEnd H171 [(4, 0), (5, 0)])))) (fun v83 μ82 =>
 some (XG171_16_1 v83 μ82)))) (fun v78 μ77 =>
 some (XG171_16_1 v78 μ77)) := by kernel_rfl
theorem nfXG171_16_0 (ρ : Rho) (x5 : Int) (o0_0 : Int) (o0_1 : Int) (o0_2 : List UInt8) (μ : Mu) : runK E.P ρ H171 [] (XG171_16_0 x5 o0_0 o0_1 o0_2 μ) (segEnd H171 [(4, 0), (5, 0)]) =
 some (XG171_14_0 x5 o0_0 o0_1 o0_2 μ) := by kernel_rfl
theorem nfG171_14 (ρ : Rho) (x1 : Int) (x6 : List UInt8) (x7 : List UInt8) (x14 : Int) (x15 : List UInt8) (x17 : Bool) (o0_0 : Int) (o0_1 : Int) (o0_2 : List UInt8) (μ : Mu) : segK E.P ρ H171 [(4, 0), (5, 0)] (codeAt E.P 171 [1, 1, 1, 1, 1, 1, 1])
 { fr := mkFr [(1, LV.int .i64 x1), (4, LV.loc 0 0), (6, LV.str x6), (7, LV.str x7), (14, LV.int .u8 x14), (15, LV.str x15), (17, LV.bool x17)], lam := [Ob.cells [LV.int .i64 o0_0, LV.int .i64 o0_1, LV.str o0_2]], pushed := false } μ =
 callK (ρ.call 193 [LV.str x6, LV.str x7] μ) (fun v64 μ65 =>
 opt (getInt .i64 v64) fun n68 =>
 cond (decide ((30 : Int) < n68)) (
 callK (ρ.call 170 [LV.int .i64 (7 : Int)] μ65) (fun v69 μ70 =>
 opt (getTup v69) fun xs73 =>
 opt (isNilL xs73) fun u74 =>
 opt (G171_16 ρ x1 x6 x7 x14 x15 x17 o0_0 o0_1 o0_2 μ70) fun st104 => runK E.P ρ H171 [] st104 (segEnd H171 [(4, 0), (5, 0)])) (fun v72 μ71 =>
 some (XG171_14_1 v72 μ71))) (
 callK (ρ.call 194 [LV.str x15, LV.str ([45] : List UInt8)] μ65) (fun v105 μ106 =>
 opt (getStr v105) fun s109 =>
 cond (decide ((3 : Int) < (List.length s109 : Int))) (
 cond (x17) (
 callK (ρ.call 170 [LV.int .i64 (7 : Int)] μ106) (fun v110 μ111 =>
 opt (getTup v110) fun xs114 =>
 opt (isNilL xs114) fun u115 =>
 opt (G171_16 ρ x1 x6 x7 x14 x15 x17 o0_0 o0_1 o0_2 μ111) fun st116 => runK E.P ρ H171 [] st116 (segEnd H171 [(4, 0), (5, 0)])) (fun v113 μ112 =>
 some (XG171_14_1 v113 μ112))) (
 opt (G171_16 ρ x1 x6 x7 x14 x15 x17 o0_0 o0_1 o0_2 μ106) fun st117 => runK E.P ρ H171 [] st117 (segEnd H171 [(4, 0), (5, 0)]))) (
 opt (G171_16 ρ x1 x6 x7 x14 x15 x17 o0_0 o0_1 o0_2 μ106) fun st118 => runK E.P ρ H171 [] st118 (segEnd H171 [(4, 0), (5, 0)]))) (fun v108 μ107 =>
 some (XG171_14_1 v108 μ107)))) (fun v67 μ66 =>
 some (XG171_14_1 v67 μ66)) := by kernel_rfl
theorem nfXG171_14_0 (ρ : Rho) (x5 : Int) (o0_0 : Int) (o0_1 : Int) (o0_2 : List UInt8) (μ : Mu) : runK E.P ρ H171 [] (XG171_14_0 x5 o0_0 o0_1 o0_2 μ) (segEnd H171 [(4, 0), (5, 0)]) =
 some (XG171_12_0 x5 o0_0 o0_1 o0_2 μ) := by kernel_rfl
theorem nfXG171_14_1 (ρ : Rho) (pv : CV) (μ : Mu) : runK E.P ρ H171 [] (XG171_14_1 pv μ) (segEnd H171 [(4, 0), (5, 0)]) =
 some (XG171_12_1 pv μ) := by kernel_rfl
theorem nfG171_12 (ρ : Rho) (x1 : Int) (x6 : List UInt8) (x7 : List UInt8) (x14 : Int) (x15 : List UInt8) (x16 : Int) (x17 : Bool) (o0_0 : Int) (o0_1 : Int) (o0_2 : List UInt8) (μ : Mu) : segK E.P ρ H171 [(4, 0), (5, 0)] (codeAt E.P 171 [1, 1, 1, 1, 1, 1])
 { fr := mkFr [(1, LV.int .i64 x1), (4, LV.loc 0 0), (6, LV.str x6), (7, LV.str x7), (14, LV.int .u8 x14), (15, LV.str x15), (16, LV.int .i64 x16), (17, LV.bool x17)], lam := [Ob.cells [LV.int .i64 o0_0, LV.int .i64 o0_1, LV.str o0_2]], pushed := false } μ =
 cond (x17) (
 opt (G171_14 ρ x16 x6 x7 x14 x15 x17 o0_0 o0_1 o0_2 μ) fun st119 => runK E.P ρ H171 [] st119 (segEnd H171 [(4, 0), (5, 0)])) (
 opt (G171_14 ρ x1 x6 x7 x14 x15 x17 o0_0 o0_1 o0_2 μ) fun st120 => runK E.P ρ H171 [] st120 (segEnd H171 [(4, 0), (5, 0)])) := by kernel_rfl
theorem nfXG171_12_0 (ρ : Rho) (x5 : Int) (o0_0 : Int) (o0_1 : Int) (o0_2 : List UInt8) (μ : Mu) : runK E.P ρ H171 [] (XG171_12_0 x5 o0_0 o0_1 o0_2 μ) (segEnd H171 [(4, 0), (5, 0)]) =
 some (XG171_9_0 x5 o0_0 o0_1 o0_2 μ) := by kernel_rfl
theorem nfXG171_12_1 (ρ : Rho) (pv : CV) (μ : Mu) : runK E.P ρ H171 [] (XG171_12_1 pv μ) (segEnd H171 [(4, 0), (5, 0)]) =
 some (XG171_9_1 pv μ) := by kernel_rfl
theorem nfG171_9 (ρ : Rho) (x0l : Nat) (x0i : Nat) (x1 : Int) (x6 : List UInt8) (x7 : List UInt8) (x8 : Bool) (o0_0 : Int) (o0_1 : Int) (o0_2 : List UInt8) (μ : Mu) : segK E.P ρ H171 [(4, 0), (5, 0)] (codeAt E.P 171 [1, 1, 1, 1])
 { fr := mkFr [(0, LV.cv (CV.ref x0l x0i 0)), (1, LV.int .i64 x1), (4, LV.loc 0 0), (6, LV.str x6), (7, LV.str x7), (8, LV.bool x8)], lam := [Ob.cells [LV.int .i64 o0_0, LV.int .i64 o0_1, LV.str o0_2]], pushed := false } μ =
 callK (ρ.call 191 [LV.cv (CV.ref x0l x0i 0), LV.int .i64 x1] μ) (fun v43 μ44 =>
 opt (getTup v43) fun xs47 =>
 opt (uncons xs47) fun q48 =>
 opt (getInt .u8 q48.1) fun n49 =>
 opt (uncons q48.2) fun q50 =>
 opt (getStr q50.1) fun s51 =>
 opt (uncons q50.2) fun q52 =>
 opt (getInt .i64 q52.1) fun n53 =>
 opt (uncons q52.2) fun q54 =>
 opt (getBool q54.1) fun b55 =>
 opt (isNilL q54.2) fun u56 =>
 cond (!x8) (
 cond (!b55) (
 callK (ρ.call 192 [LV.str x6] μ44) (fun v57 μ58 =>
 rd23 v57 fun n61 n62 s63 =>
 some (XG171_9_0 x1 n61 n62 s63 μ58)) (fun v60 μ59 =>
 some (XG171_9_1 v60 μ59))) (
 opt (G171_12 ρ x1 x6 x7 n49 s51 n53 b55 o0_0 o0_1 o0_2 μ44) fun st121 => runK E.P ρ H171 [] st121 (segEnd H171 [(4, 0), (5, 0)]))) (
 opt (G171_12 ρ x1 x6 x7 n49 s51 n53 b55 o0_0 o0_1 o0_2 μ44) fun st122 => runK E.P ρ H171 [] st122 (segEnd H171 [(4, 0), (5, 0)]))) (fun v46 μ45 =>
 some (XG171_9_1 v46 μ45)) := by kernel_rfl
theorem nfXG171_9_0 (ρ : Rho) (x5 : Int) (o0_0 : Int) (o0_1 : Int) (o0_2 : List UInt8) (μ : Mu) : runK E.P ρ H171 [] (XG171_9_0 x5 o0_0 o0_1 o0_2 μ) (bodyEnd E.P (resOf E.P 171)) =
 some (.ret (LV.ltup [LV.cv (CV.agg [CV.int .i64 o0_0, CV.int .i64 o0_1, CV.str o0_2]), LV.int .i64 x5]) μ) := by kernel_rfl
theorem nfXG171_9_1 (ρ : Rho) (pv : CV) (μ : Mu) : runK E.P ρ H171 [] (XG171_9_1 pv μ) (bodyEnd E.P (resOf E.P 171)) =
 guardB (below (List.length μ) pv) (some (.panic pv μ)) := by kernel_rfl
theorem nf171 (ρ : Rho) (al : Nat) (ai : Nat) (b : Int) (μ : Mu) : callStep E ρ 171 [LV.cv (CV.ref al ai 0), LV.int .i64 b] μ =
 callK (ρ.call 169 [LV.cv (CV.ref al ai 0), LV.int .i64 b, LV.cv (CV.clo 132 [])] μ) (fun v1 μ2 =>
 opt (getTup v1) fun xs5 =>
 opt (uncons xs5) fun q6 =>
 opt (getStr q6.1) fun s7 =>
 opt (uncons q6.2) fun q8 =>
 opt (getInt .i64 q8.1) fun n9 =>
 opt (isNilL q8.2) fun u10 =>
 callK (ρ.call 168 [LV.cv (CV.ref al ai 0), LV.int .i64 n9] μ2) (fun v11 μ12 =>
 opt (getTup v11) fun xs15 =>
 opt (uncons xs15) fun q16 =>
 opt (getInt .u8 q16.1) fun n17 =>
 opt (uncons q16.2) fun q18 =>
 opt (getInt .i64 q18.1) fun n19 =>
 opt (isNilL q18.2) fun u20 =>
 cond (decide (n17 = (46 : Int))) (
 callK (ρ.call 172 [LV.cv (CV.ref al ai 0), LV.int .i64 n9] μ12) (fun v21 μ22 =>
 opt (getTup v21) fun xs25 =>
 opt (uncons xs25) fun q26 =>
 opt (getStr q26.1) fun s27 =>
 opt (uncons q26.2) fun q28 =>
 opt (getInt .i64 q28.1) fun n29 =>
 opt (uncons q28.2) fun q30 =>
 opt (getBool q30.1) fun b31 =>
 opt (isNilL q30.2) fun u32 =>
 cond (!b31) (
 callK (ρ.call 169 [LV.cv (CV.ref al ai 0), LV.int .i64 n19, LV.cv (CV.clo 132 [])] μ22) (fun v33 μ34 =>
 opt (getTup v33) fun xs37 =>
 opt (uncons xs37) fun q38 =>
 opt (getStr q38.1) fun s39 =>
 opt (uncons q38.2) fun q40 =>
 opt (getInt .i64 q40.1) fun n41 =>
 opt (isNilL q40.2) fun u42 =>
 opt (G171_9 ρ al ai n41 s7 s39 true (0 : Int) (0 : Int) ([] : List UInt8) μ34) fun st123 => runK E.P ρ H171 [] st123 (bodyEnd E.P (resOf E.P 171))) (fun v36 μ35 =>
 guardB (below (List.length μ35) v36) (some (.panic v36 μ35)))) (
 cond (decide (s7 = ([] : List UInt8))) (
 callK (ρ.call 169 [LV.cv (CV.ref al ai 0), LV.int .i64 n19, LV.cv (CV.clo 132 [])] μ22) (fun v124 μ125 =>
 opt (getTup v124) fun xs128 =>
 opt (uncons xs128) fun q129 =>
 opt (getStr q129.1) fun s130 =>
 opt (uncons q129.2) fun q131 =>
 opt (getInt .i64 q131.1) fun n132 =>
 opt (isNilL q131.2) fun u133 =>
 opt (G171_9 ρ al ai n132 s7 s130 true (0 : Int) (0 : Int) ([] : List UInt8) μ125) fun st134 => runK E.P ρ H171 [] st134 (bodyEnd E.P (resOf E.P 171))) (fun v127 μ126 =>
 guardB (below (List.length μ126) v127) (some (.panic v127 μ126)))) (
 opt (G171_9 ρ al ai n9 s7 ([] : List UInt8) false (0 : Int) (0 : Int) ([] : List UInt8) μ22) fun st135 => runK E.P ρ H171 [] st135 (bodyEnd E.P (resOf E.P 171))))) (fun v24 μ23 =>
 guardB (below (List.length μ23) v24) (some (.panic v24 μ23)))) (
 opt (G171_9 ρ al ai n9 s7 ([] : List UInt8) false (0 : Int) (0 : Int) ([] : List UInt8) μ12) fun st136 => runK E.P ρ H171 [] st136 (bodyEnd E.P (resOf E.P 171)))) (fun v14 μ13 =>
 guardB (below (List.length μ13) v14) (some (.panic v14 μ13)))) (fun v4 μ3 =>
 guardB (below (List.length μ3) v4) (some (.panic v4 μ3))) := by kernel_rfl
noncomputable def G172_4 (ρ : Rho) (x0l : Nat) (x0i : Nat) (x8 : Int) (μ : Mu) : Option St := ρ.seg H172 [(4, 0), (5, 0), (6, 0)] (codeAt E.P 172 [1, 1, 1])
 { fr := mkFr [(0, LV.cv (CV.ref x0l x0i 0)), (8, LV.int .i64 x8)], lam := [], pushed := false } μ
def XG172_4_0 (x4 : List UInt8) (x5 : Int) (x6 : Bool) (μ : Mu) : St := .ret { fr := mkFr [(4, LV.str x4), (5, LV.int .i64 x5), (6, LV.bool x6)], lam := [], pushed := false } μ
def XG172_4_1 (pv : CV) (μ : Mu) : St := .panic pv { fr := mkFr [], lam := [], pushed := false } μ
theorem nfG172_4 (ρ : Rho) (x0l : Nat) (x0i : Nat) (x8 : Int) (μ : Mu) : segK E.P ρ H172 [(4, 0), (5, 0), (6, 0)] (codeAt E.P 172 [1, 1, 1])
 { fr := mkFr [(0, LV.cv (CV.ref x0l x0i 0)), (8, LV.int .i64 x8)], lam := [], pushed := false } μ =
 callK (ρ.call 169 [LV.cv (CV.ref x0l x0i 0), LV.int .i64 x8, LV.cv (CV.clo 90 [])] μ) (fun v11 μ12 =>
 opt (getTup v11) fun xs15 =>
 opt (uncons xs15) fun q16 =>
 opt (getStr q16.1) fun s17 =>
 opt (uncons q16.2) fun q18 =>
 opt (getInt .i64 q18.1) fun n19 =>
 opt (isNilL q18.2) fun u20 =>
 callK (ρ.call 168 [LV.cv (CV.ref x0l x0i 0), LV.int .i64 n19] μ12) (fun v21 μ22 =>
 opt (getTup v21) fun xs25 =>
 opt (uncons xs25) fun q26 =>
 opt (getInt .u8 q26.1) fun n27 =>
 opt (uncons q26.2) fun q28 =>
 opt (getInt .i64 q28.1) fun n29 =>
 opt (isNilL q28.2) fun u30 =>
 callK (ρ.call 91 [LV.str s17] μ22) (fun v31 μ32 =>
 opt (getStr v31) fun s35 =>
 guardB (small (List.length ([46] : List UInt8) + List.length s35)) (
 guardB (small (List.length (([46] : List UInt8) ++ s35) + List.length ([46] : List UInt8))) (
 callK (ρ.call 51 [] μ32) (fun v36 μ37 =>
 opt (getSl v36) fun l40 =>
 callK (ρ.call 50 [LV.cv (CV.sl l40), LV.str ((([46] : List UInt8) ++ s35) ++ ([46] : List UInt8))] μ37) (fun v41 μ42 =>
 opt (getBool v41) fun b45 =>
 cond (b45) (
 cond (decide (n27 = (46 : Int))) (
 some (XG172_4_0 ((([46] : List UInt8) ++ s35) ++ ([46] : List UInt8)) n29 true μ42)) (
 some (XG172_4_0 ((([46] : List UInt8) ++ s35) ++ ([46] : List UInt8)) n29 false μ42))) (
 cond (decide ((([46] : List UInt8) ++ s35) ++ ([46] : List UInt8) = ([46, 84, 82, 85, 69, 46] : List UInt8))) (
 cond (decide (n27 = (46 : Int))) (
 some (XG172_4_0 ((([46] : List UInt8) ++ s35) ++ ([46] : List UInt8)) n29 true μ42)) (
 some (XG172_4_0 ((([46] : List UInt8) ++ s35) ++ ([46] : List UInt8)) n29 false μ42))) (
 cond (decide (n27 = (46 : Int))) (
 some (XG172_4_0 ((([46] : List UInt8) ++ s35) ++ ([46] : List UInt8)) n29 (decide ((([46] : List UInt8) ++ s35) ++ ([46] : List UInt8) = ([46, 70, 65, 76, 83, 69, 46] : List UInt8))) μ42)) (
 some (XG172_4_0 ((([46] : List UInt8) ++ s35) ++ ([46] : List UInt8)) n29 false μ42))))) (fun v44 μ43 =>
 some (XG172_4_1 v44 μ43))) (fun v39 μ38 =>
 some (XG172_4_1 v39 μ38))))) (fun v34 μ33 =>
 some (XG172_4_1 v34 μ33))) (fun v24 μ23 =>
 some (XG172_4_1 v24 μ23))) (fun v14 μ13 =>
 some (XG172_4_1 v14 μ13)) := by kernel_rfl
theorem nfXG172_4_0 (ρ : Rho) (x4 : List UInt8) (x5 : Int) (x6 : Bool) (μ : Mu) : runK E.P ρ H172 [] (XG172_4_0 x4 x5 x6 μ) (bodyEnd E.P (resOf E.P 172)) =
 some (.ret (LV.ltup [LV.str x4, LV.int .i64 x5, LV.bool x6]) μ) := by kernel_rfl
theorem nf172 (ρ : Rho) (al : Nat) (ai : Nat) (b : Int) (μ : Mu) : callStep E ρ 172 [LV.cv (CV.ref al ai 0), LV.int .i64 b] μ =
 callK (ρ.call 168 [LV.cv (CV.ref al ai 0), LV.int .i64 b] μ) (fun v1 μ2 =>
 opt (getTup v1) fun xs5 =>
 opt (uncons xs5) fun q6 =>
 opt (getInt .u8 q6.1) fun n7 =>
 opt (uncons q6.2) fun q8 =>
 opt (getInt .i64 q8.1) fun n9 =>
 opt (isNilL q8.2) fun u10 =>
 cond (!decide (n7 = (46 : Int))) (
 some (.ret (LV.ltup [LV.str ([] : List UInt8), LV.int .i64 b, LV.bool false]) μ2)) (
 opt (G172_4 ρ al ai n9 μ2) fun st46 => runK E.P ρ H172 [] st46 (bodyEnd E.P (resOf E.P 172)))) (fun v4 μ3 =>
 guardB (below (List.length μ3) v4) (some (.panic v4 μ3))) := by kernel_rfl
noncomputable def L173_6 (ρ : Rho) (x0l : Nat) (x0i : Nat) (x1 : Int) (x6 : List UInt8) (x7 : Int) (x8 : List UInt8) (o0_0 : Int) (o0_1 : Int) (o0_2 : List UInt8) (μ : Mu) : Option St := ρ.loop H173 [(0, 0), (1, 0), (4, 0), (7, 0), (8, 0)] (codeAt E.P 173 [1, 1, 1, 1, 0, 1, 0, 0])
 { fr := mkFr [(0, LV.cv (CV.ref x0l x0i 0)), (1, LV.int .i64 x1), (4, LV.loc 0 0), (6, LV.str x6), (7, LV.int .i64 x7), (8, LV.str x8)], lam := [Ob.cells [LV.int .i64 o0_0, LV.int .i64 o0_1, LV.str o0_2]], pushed := false } μ
noncomputable def G173_9 (ρ : Rho) (x0l : Nat) (x0i : Nat) (x1 : Int) (x6 : List UInt8) (x7 : Int) (x8 : List UInt8) (x9 : Int) (o0_0 : Int) (o0_1 : Int) (o0_2 : List UInt8) (μ : Mu) : Option St := ρ.seg H173 [(0, 0), (1, 0), (4, 0), (6, 0), (7, 0), (8, 0)] (codeAt E.P 173 [1, 1, 1, 1, 0, 1, 0, 0, 0, 0, 1, 1])
 { fr := mkFr [(0, LV.cv (CV.ref x0l x0i 0)), (1, LV.int .i64 x1), (4, LV.loc 0 0), (6, LV.str x6), (7, LV.int .i64 x7), (8, LV.str x8), (9, LV.int .i64 x9)], lam := [Ob.cells [LV.int .i64 o0_0, LV.int .i64 o0_1, LV.str o0_2]], pushed := false } μ
def XG173_9_0 (x0l : Nat) (x0i : Nat) (x1 : Int) (x6 : List UInt8) (x7 : Int) (x8 : List UInt8) (o0_0 : Int) (o0_1 : Int) (o0_2 : List UInt8) (μ : Mu) : St := .exit 0 { fr := mkFr [(0, LV.cv (CV.ref x0l x0i 0)), (1, LV.int .i64 x1), (4, LV.loc 0 0), (6, LV.str x6), (7, LV.int .i64 x7), (8, LV.str x8)], lam := [Ob.cells [LV.int .i64 o0_0, LV.int .i64 o0_1, LV.str o0_2]], pushed := false } μ
def XG173_9_1 (x0l : Nat) (x0i : Nat) (x1 : Int) (x6 : List UInt8) (x7 : Int) (x8 : List UInt8) (o0_0 : Int) (o0_1 : Int) (o0_2 : List UInt8) (μ : Mu) : St := .norm { fr := mkFr [(0, LV.cv (CV.ref x0l x0i 0)), (1, LV.int .i64 x1), (4, LV.loc 0 0), (6, LV.str x6), (7, LV.int .i64 x7), (8, LV.str x8)], lam := [Ob.cells [LV.int .i64 o0_0, LV.int .i64 o0_1, LV.str o0_2]], pushed := false } μ
def XG173_9_2 (pv : CV) (μ : Mu) : St := .panic pv { fr := mkFr [], lam := [], pushed := false } μ
def XL173_6_0 (x0l : Nat) (x0i : Nat) (x1 : Int) (x7 : Int) (x8 : List UInt8) (o0_0 : Int) (o0_1 : Int) (o0_2 : List UInt8) (μ : Mu) : St := .exit 0 { fr := mkFr [(0, LV.cv (CV.ref x0l x0i 0)), (1, LV.int .i64 x1), (4, LV.loc 0 0), (7, LV.int .i64 x7), (8, LV.str x8)], lam := [Ob.cells [LV.int .i64 o0_0, LV.int .i64 o0_1, LV.str o0_2]], pushed := false } μ
def XL173_6_1 (pv : CV) (μ : Mu) : St := .panic pv { fr := mkFr [], lam := [], pushed := false } μ
noncomputable def G173_15 (ρ : Rho) (x0l : Nat) (x0i : Nat) (x1 : Int) (x7 : Int) (x8 : List UInt8) (o0_0 : Int) (o0_1 : Int) (o0_2 : List UInt8) (μ : Mu) : Option St := ρ.seg H173 [(4, 0), (5, 0)] (codeAt E.P 173 [1, 1, 1, 1, 1, 1])
 { fr := mkFr [(0, LV.cv (CV.ref x0l x0i 0)), (1, LV.int .i64 x1), (4, LV.loc 0 0), (7, LV.int .i64 x7), (8, LV.str x8)], lam := [Ob.cells [LV.int .i64 o0_0, LV.int .i64 o0_1, LV.str o0_2]], pushed := false } μ
def XG173_15_0 (x5 : Int) (o0_0 : Int) (o0_1 : Int) (o0_2 : List UInt8) (μ : Mu) : St := .ret { fr := mkFr [(4, LV.loc 0 0), (5, LV.int .i64 x5)], lam := [Ob.cells [LV.int .i64 o0_0, LV.int .i64 o0_1, LV.str o0_2]], pushed := false } μ
def XG173_15_1 (pv : CV) (μ : Mu) : St := .panic pv { fr := mkFr [], lam := [], pushed := false } μ
theorem nfG173_9 (ρ : Rho) (x0l : Nat) (x0i : Nat) (x1 : Int) (x6 : List UInt8) (x7 : Int) (x8 : List UInt8) (x9 : Int) (o0_0 : Int) (o0_1 : Int) (o0_2 : List UInt8) (μ : Mu) : segK E.P ρ H173 [(0, 0), (1, 0), (4, 0), (6, 0), (7, 0), (8, 0)] (codeAt E.P 173 [1, 1, 1, 1, 0, 1, 0, 0, 0, 0, 1, 1])
 { fr := mkFr [(0, LV.cv (CV.ref x0l x0i 0)), (1, LV.int .i64 x1), (4, LV.loc 0 0), (6, LV.str x6), (7, LV.int .i64 x7), (8, LV.str x8), (9, LV.int .i64 x9)], lam := [Ob.cells [LV.int .i64 o0_0, LV.int .i64 o0_1, LV.str o0_2]], pushed := false } μ =
 opt (obRead E.P 9 (muOb μ x0l x0i) 0) fun v18 =>
 opt (getStr v18) fun s19 =>
 opt (cutA s19 x1 (IntKind.wrap .i64 (x1 + x9))) fun s20 =>
 guardB (small (List.length x8 + List.length s20)) (
 opt (obRead E.P 9 (muOb μ x0l x0i) 0) fun v21 =>
 opt (getStr v21) fun s22 =>
 opt (cutA s22 (IntKind.wrap .i64 (x1 + IntKind.wrap .i64 (x9 + (1 : Int)))) (List.length s22 : Int)) fun s23 =>
 callK (ρ.call 195 [LV.str s23, LV.str x6] μ) (fun v24 μ25 =>
 opt (getBool v24) fun b28 =>
 cond (!b28) (
 some (XG173_9_0 x0l x0i (IntKind.wrap .i64 (x1 + IntKind.wrap .i64 (x9 + (1 : Int)))) x6 x7 (x8 ++ s20) o0_0 o0_1 o0_2 μ25)) (
 guardB (small (List.length (x8 ++ s20) + List.length x6)) (
 some (XG173_9_1 x0l x0i (IntKind.wrap .i64 (x1 + IntKind.wrap .i64 (x9 + (1 : Int)))) x6 x7 ((x8 ++ s20) ++ x6) o0_0 o0_1 o0_2 μ25)))) (fun v27 μ26 =>
 some (XG173_9_2 v27 μ26))) := by kernel_rfl
theorem nfXG173_9_0 (ρ : Rho) (x0l : Nat) (x0i : Nat) (x1 : Int) (x6 : List UInt8) (x7 : Int) (x8 : List UInt8) (o0_0 : Int) (o0_1 : Int) (o0_2 : List UInt8) (μ : Mu) : runK E.P ρ H173 [.block 1, .seq (codeAt E.P 173 [1, 1, 1, 1, 0, 1, 0, 0, 1])] (XG173_9_0 x0l x0i x1 x6 x7 x8 o0_0 o0_1 o0_2 μ) (roundEnd E.P ρ H173 [(0, 0), (1, 0), (4, 0), (7, 0), (8, 0)] (codeAt E.P 173 [1, 1, 1, 1, 0, 1, 0, 0])) =
 some (XL173_6_0 x0l x0i x1 x7 x8 o0_0 o0_1 o0_2 μ) := by kernel_rfl
theorem nfXG173_9_1 (ρ : Rho) (x0l : Nat) (x0i : Nat) (x1 : Int) (x6 : List UInt8) (x7 : Int) (x8 : List UInt8) (o0_0 : Int) (o0_1 : Int) (o0_2 : List UInt8) (μ : Mu) : runK E.P ρ H173 [.block 1, .seq (codeAt E.P 173 [1, 1, 1, 1, 0, 1, 0, 0, 1])] (XG173_9_1 x0l x0i x1 x6 x7 x8 o0_0 o0_1 o0_2 μ) (roundEnd E.P ρ H173 [(0, 0), (1, 0), (4, 0), (7, 0), (8, 0)] (codeAt E.P 173 [1, 1, 1, 1, 0, 1, 0, 0])) =
 L173_6 ρ x0l x0i (IntKind.wrap .i64 (x1 + (1 : Int))) x6 x7 x8 o0_0 o0_1 o0_2 μ := by kernel_rfl
theorem nfL173_6 (ρ : Rho) (x0l : Nat) (x0i : Nat) (x1 : Int) (x6 : List UInt8) (x7 : Int) (x8 : List UInt8) (o0_0 : Int) (o0_1 : Int) (o0_2 : List UInt8) (μ : Mu) : roundK E.P ρ H173 [(0, 0), (1, 0), (4, 0), (7, 0), (8, 0)] (codeAt E.P 173 [1, 1, 1, 1, 0, 1, 0, 0])
 { fr := mkFr [(0, LV.cv (CV.ref x0l x0i 0)), (1, LV.int .i64 x1), (4, LV.loc 0 0), (6, LV.str x6), (7, LV.int .i64 x7), (8, LV.str x8)], lam := [Ob.cells [LV.int .i64 o0_0, LV.int .i64 o0_1, LV.str o0_2]], pushed := false } μ =
 opt (obRead E.P 9 (muOb μ x0l x0i) 0) fun v4 =>
 opt (getStr v4) fun s5 =>
 opt (cutA s5 x1 (List.length s5 : Int)) fun s6 =>
 callK (ρ.call 145 [LV.str s6, LV.str x6] μ) (fun v7 μ8 =>
 opt (getInt .i64 v7) fun n11 =>
 cond (decide (n11 < (0 : Int))) (
 callK (ρ.call 170 [LV.int .i64 (7 : Int)] μ8) (fun v12 μ13 =>
 opt (getTup v12) fun xs16 =>
 opt (isNilL xs16) fun u17 =>
 opt (G173_9 ρ x0l x0i x1 x6 x7 x8 n11 o0_0 o0_1 o0_2 μ13) fun st29 => runK E.P ρ H173 [.block 1, .seq (codeAt E.P 173 [1, 1, 1, 1, 0, 1, 0, 0, 1])] st29 (roundEnd E.P ρ H173 [(0, 0), (1, 0), (4, 0), (7, 0), (8, 0)] (codeAt E.P 173 [1, 1, 1, 1, 0, 1, 0, 0]))) (fun v15 μ14 =>
 some (XL173_6_1 v15 μ14))) (
 opt (G173_9 ρ x0l x0i x1 x6 x7 x8 n11 o0_0 o0_1 o0_2 μ8) fun st30 => runK E.P ρ H173 [.block 1, .seq (codeAt E.P 173 [1, 1, 1, 1, 0, 1, 0, 0, 1])] st30 (roundEnd E.P ρ H173 [(0, 0), (1, 0), (4, 0), (7, 0), (8, 0)] (codeAt E.P 173 [1, 1, 1, 1, 0, 1, 0, 0])))) (fun v10 μ9 =>
 some (XL173_6_1 v10 μ9)) := by kernel_rfl
theorem nfG173_15 (ρ : Rho) (x0l : Nat) (x0i : Nat) (x1 : Int) (x7 : Int) (x8 : List UInt8) (o0_0 : Int) (o0_1 : Int) (o0_2 : List UInt8) (μ : Mu) : segK E.P ρ H173 [(4, 0), (5, 0)] (codeAt E.P 173 [1, 1, 1, 1, 1, 1])
 { fr := mkFr [(0, LV.cv (CV.ref x0l x0i 0)), (1, LV.int .i64 x1), (4, LV.loc 0 0), (7, LV.int .i64 x7), (8, LV.str x8)], lam := [Ob.cells [LV.int .i64 o0_0, LV.int .i64 o0_1, LV.str o0_2]], pushed := false } μ =
 callK (ρ.call 189 [LV.cv (CV.ref x0l x0i 0), LV.int .i64 x7, LV.int .i64 x1] μ) (fun v37 μ38 =>
 opt (getTup v37) fun xs41 =>
 opt (isNilL xs41) fun u42 =>
 callK (ρ.call 86 [LV.str x8] μ38) (fun v43 μ44 =>
 rd23 v43 fun n47 n48 s49 =>
 some (XG173_15_0 x1 n47 n48 s49 μ44)) (fun v46 μ45 =>
 some (XG173_15_1 v46 μ45))) (fun v40 μ39 =>
 some (XG173_15_1 v40 μ39)) := by kernel_rfl
theorem nfXG173_15_0 (ρ : Rho) (x5 : Int) (o0_0 : Int) (o0_1 : Int) (o0_2 : List UInt8) (μ : Mu) : runK E.P ρ H173 [] (XG173_15_0 x5 o0_0 o0_1 o0_2 μ) (bodyEnd E.P (resOf E.P 173)) =
 some (.ret (LV.ltup [LV.cv (CV.agg [CV.int .i64 o0_0, CV.int .i64 o0_1, CV.str o0_2]), LV.int .i64 x5]) μ) := by kernel_rfl
theorem nfXL173_6_0 (ρ : Rho) (x0l : Nat) (x0i : Nat) (x1 : Int) (x7 : Int) (x8 : List UInt8) (o0_0 : Int) (o0_1 : Int) (o0_2 : List UInt8) (μ : Mu) : runK E.P ρ H173 [.block 0, .seq (codeAt E.P 173 [1, 1, 1, 1, 1])] (XL173_6_0 x0l x0i x1 x7 x8 o0_0 o0_1 o0_2 μ) (bodyEnd E.P (resOf E.P 173)) =
 cond (decide ((60 : Int) < (List.length x8 : Int))) (
 callK (ρ.call 170 [LV.int .i64 (8 : Int)] μ) (fun v31 μ32 =>
 opt (getTup v31) fun xs35 =>
 opt (isNilL xs35) fun u36 =>
 opt (G173_15 ρ x0l x0i x1 x7 x8 o0_0 o0_1 o0_2 μ32) fun st50 => runK E.P ρ H173 [] st50 (bodyEnd E.P (resOf E.P 173))) (fun v34 μ33 =>
 guardB (below (List.length μ33) v34) (some (.panic v34 μ33)))) (
 opt (G173_15 ρ x0l x0i x1 x7 x8 o0_0 o0_1 o0_2 μ) fun st51 => runK E.P ρ H173 [] st51 (bodyEnd E.P (resOf E.P 173))) := by kernel_rfl
theorem nfXL173_6_1 (ρ : Rho) (pv : CV) (μ : Mu) : runK E.P ρ H173 [.block 0, .seq (codeAt E.P 173 [1, 1, 1, 1, 1])] (XL173_6_1 pv μ) (bodyEnd E.P (resOf E.P 173)) =
 guardB (below (List.length μ) pv) (some (.panic pv μ)) := by kernel_rfl
theorem nf173 (ρ : Rho) (al : Nat) (ai : Nat) (b : Int) (μ : Mu) : callStep E ρ 173 [LV.cv (CV.ref al ai 0), LV.int .i64 b] μ =
 opt (obRead E.P 9 (muOb μ al ai) 0) fun v1 =>
 opt (getStr v1) fun s2 =>
 opt (cutA s2 b (IntKind.wrap .i64 (b + (1 : Int)))) fun s3 =>
 opt (L173_6 ρ al ai (IntKind.wrap .i64 (b + (1 : Int))) s3 b ([] : List UInt8) (0 : Int) (0 : Int) ([] : List UInt8) μ) fun st52 => runK E.P ρ H173 [.block 0, .seq (codeAt E.P 173 [1, 1, 1, 1, 1])] st52 (bodyEnd E.P (resOf E.P 173)) := by kernel_rfl
noncomputable def G174_7 (ρ : Rho) (x6 : Int) (x7 : Int) (x8 : Int) (x9 : Int) (x10 : List UInt8) (o0_0 : Int) (o0_1 : Int) (o0_2 : List UInt8) (μ : Mu) : Option St := ρ.seg H174 [(4, 0), (5, 0)] (codeAt E.P 174 [1, 1, 1, 1, 1])
 { fr := mkFr [(4, LV.loc 0 0), (6, LV.int .u8 x6), (7, LV.int .i64 x7), (8, LV.int .u8 x8), (9, LV.int .i64 x9), (10, LV.str x10)], lam := [Ob.cells [LV.int .i64 o0_0, LV.int .i64 o0_1, LV.str o0_2]], pushed := false } μ
def XG174_7_0 (x5 : Int) (o0_0 : Int) (o0_1 : Int) (o0_2 : List UInt8) (μ : Mu) : St := .ret { fr := mkFr [(4, LV.loc 0 0), (5, LV.int .i64 x5)], lam := [Ob.cells [LV.int .i64 o0_0, LV.int .i64 o0_1, LV.str o0_2]], pushed := false } μ
noncomputable def G174_9 (ρ : Rho) (x6 : Int) (x7 : Int) (o0_0 : Int) (o0_1 : Int) (o0_2 : List UInt8) (μ : Mu) : Option St := ρ.seg H174 [(4, 0), (5, 0)] (codeAt E.P 174 [1, 1, 1, 1, 1, 1])
 { fr := mkFr [(4, LV.loc 0 0), (6, LV.int .u8 x6), (7, LV.int .i64 x7)], lam := [Ob.cells [LV.int .i64 o0_0, LV.int .i64 o0_1, LV.str o0_2]], pushed := false } μ
def XG174_9_0 (x5 : Int) (o0_0 : Int) (o0_1 : Int) (o0_2 : List UInt8) (μ : Mu) : St := .ret { fr := mkFr [(4, LV.loc 0 0), (5, LV.int .i64 x5)], lam := [Ob.cells [LV.int .i64 o0_0, LV.int .i64 o0_1, LV.str o0_2]], pushed := false } μ
noncomputable def G174_13 (ρ : Rho) (x7 : Int) (x13 : List UInt8) (o0_0 : Int) (o0_1 : Int) (o0_2 : List UInt8) (μ : Mu) : Option St := ρ.seg H174 [(4, 0), (5, 0)] (codeAt E.P 174 [1, 1, 1, 1, 1, 1, 1, 1])
 { fr := mkFr [(4, LV.loc 0 0), (7, LV.int .i64 x7), (13, LV.str x13)], lam := [Ob.cells [LV.int .i64 o0_0, LV.int .i64 o0_1, LV.str o0_2]], pushed := false } μ
def XG174_13_0 (x5 : Int) (o0_0 : Int) (o0_1 : Int) (o0_2 : List UInt8) (μ : Mu) : St := .ret { fr := mkFr [(4, LV.loc 0 0), (5, LV.int .i64 x5)], lam := [Ob.cells [LV.int .i64 o0_0, LV.int .i64 o0_1, LV.str o0_2]], pushed := false } μ
def XG174_13_1 (pv : CV) (μ : Mu) : St := .panic pv { fr := mkFr [], lam := [], pushed := false } μ
def XG174_9_1 (pv : CV) (μ : Mu) : St := .panic pv { fr := mkFr [], lam := [], pushed := false } μ
def XG174_7_1 (pv : CV) (μ : Mu) : St := .panic pv { fr := mkFr [], lam := [], pushed := false } μ
theorem nfG174_13 (ρ : Rho) (x7 : Int) (x13 : List UInt8) (o0_0 : Int) (o0_1 : Int) (o0_2 : List UInt8) (μ : Mu) : segK E.P ρ H174 [(4, 0), (5, 0)] (codeAt E.P 174 [1, 1, 1, 1, 1, 1, 1, 1])
 { fr := mkFr [(4, LV.loc 0 0), (7, LV.int .i64 x7), (13, LV.str x13)], lam := [Ob.cells [LV.int .i64 o0_0, LV.int .i64 o0_1, LV.str o0_2]], pushed := false } μ =
 callK (ρ.call 52 [] μ) (fun v49 μ50 =>
 opt (getSl v49) fun l53 =>
 callK (ρ.call 50 [LV.cv (CV.sl l53), LV.str x13] μ50) (fun v54 μ55 =>
 opt (getBool v54) fun b58 =>
 cond (!b58) (
 callK (ρ.call 170 [LV.int .i64 (7 : Int)] μ55) (fun v59 μ60 =>
 opt (getTup v59) fun xs63 =>
 opt (isNilL xs63) fun u64 =>
 some (XG174_13_0 x7 (2 : Int) (0 : Int) x13 μ60)) (fun v62 μ61 =>
 some (XG174_13_1 v62 μ61))) (
 some (XG174_13_0 x7 (2 : Int) (0 : Int) x13 μ55))) (fun v57 μ56 =>
 some (XG174_13_1 v57 μ56))) (fun v52 μ51 =>
 some (XG174_13_1 v52 μ51)) := by kernel_rfl
theorem nfXG174_13_0 (ρ : Rho) (x5 : Int) (o0_0 : Int) (o0_1 : Int) (o0_2 : List UInt8) (μ : Mu) : runK E.P ρ H174 [] (XG174_13_0 x5 o0_0 o0_1 o0_2 μ) (segEnd H174 [(4, 0), (5, 0)]) =
 some (XG174_9_0 x5 o0_0 o0_1 o0_2 μ) := by kernel_rfl
theorem nfXG174_13_1 (ρ : Rho) (pv : CV) (μ : Mu) : runK E.P ρ H174 [] (XG174_13_1 pv μ) (segEnd H174 [(4, 0), (5, 0)]) =
 some (XG174_9_1 pv μ) := by kernel_rfl
theorem nfG174_9 (ρ : Rho) (x6 : Int) (x7 : Int) (o0_0 : Int) (o0_1 : Int) (o0_2 : List UInt8) (μ : Mu) : segK E.P ρ H174 [(4, 0), (5, 0)] (codeAt E.P 174 [1, 1, 1, 1, 1, 1])
 { fr := mkFr [(4, LV.loc 0 0), (6, LV.int .u8 x6), (7, LV.int .i64 x7)], lam := [Ob.cells [LV.int .i64 o0_0, LV.int .i64 o0_1, LV.str o0_2]], pushed := false } μ =
 opt (byteCells [CV.int .u8 x6]) fun s40 =>
 callK (ρ.call 196 [] μ) (fun v41 μ42 =>
 opt (getCv v41) fun c45 =>
 opt (mapOf (LV.cv c45) { fr := fun _ => .cv .undef, lam := [Ob.cells [LV.int .i64 o0_0, LV.int .i64 o0_1, LV.str o0_2]], pushed := false } μ42) fun p46 =>
 guardB (keysOK .string p46.1) (
 optE (mapFind p46.1 p46.2 (Value.string ⟨⟨s40⟩⟩)) (fun c47 =>
 opt (getStr (LV.cv c47)) fun s48 =>
 some (XG174_9_0 x7 (2 : Int) (0 : Int) s48 μ42)) (
 opt (G174_13 ρ x7 s40 o0_0 o0_1 o0_2 μ42) fun st65 => runK E.P ρ H174 [] st65 (segEnd H174 [(4, 0), (5, 0)])))) (fun v44 μ43 =>
 some (XG174_9_1 v44 μ43)) := by kernel_rfl
theorem nfXG174_9_0 (ρ : Rho) (x5 : Int) (o0_0 : Int) (o0_1 : Int) (o0_2 : List UInt8) (μ : Mu) : runK E.P ρ H174 [] (XG174_9_0 x5 o0_0 o0_1 o0_2 μ) (segEnd H174 [(4, 0), (5, 0)]) =
 some (XG174_7_0 x5 o0_0 o0_1 o0_2 μ) := by kernel_rfl
theorem nfXG174_9_1 (ρ : Rho) (pv : CV) (μ : Mu) : runK E.P ρ H174 [] (XG174_9_1 pv μ) (segEnd H174 [(4, 0), (5, 0)]) =
 some (XG174_7_1 pv μ) := by kernel_rfl
theorem nfG174_7 (ρ : Rho) (x6 : Int) (x7 : Int) (x8 : Int) (x9 : Int) (x10 : List UInt8) (o0_0 : Int) (o0_1 : Int) (o0_2 : List UInt8) (μ : Mu) : segK E.P ρ H174 [(4, 0), (5, 0)] (codeAt E.P 174 [1, 1, 1, 1, 1])
 { fr := mkFr [(4, LV.loc 0 0), (6, LV.int .u8 x6), (7, LV.int .i64 x7), (8, LV.int .u8 x8), (9, LV.int .i64 x9), (10, LV.str x10)], lam := [Ob.cells [LV.int .i64 o0_0, LV.int .i64 o0_1, LV.str o0_2]], pushed := false } μ =
 cond (!decide (x8 = (0 : Int))) (
 callK (ρ.call 52 [] μ) (fun v30 μ31 =>
 opt (getSl v30) fun l34 =>
 callK (ρ.call 50 [LV.cv (CV.sl l34), LV.str x10] μ31) (fun v35 μ36 =>
 opt (getBool v35) fun b39 =>
 cond (b39) (
 some (XG174_7_0 x9 (2 : Int) (0 : Int) x10 μ36)) (
 opt (G174_9 ρ x6 x7 o0_0 o0_1 o0_2 μ36) fun st66 => runK E.P ρ H174 [] st66 (segEnd H174 [(4, 0), (5, 0)]))) (fun v38 μ37 =>
 some (XG174_7_1 v38 μ37))) (fun v33 μ32 =>
 some (XG174_7_1 v33 μ32))) (
 opt (G174_9 ρ x6 x7 o0_0 o0_1 o0_2 μ) fun st67 => runK E.P ρ H174 [] st67 (segEnd H174 [(4, 0), (5, 0)])) := by kernel_rfl
theorem nfXG174_7_0 (ρ : Rho) (x5 : Int) (o0_0 : Int) (o0_1 : Int) (o0_2 : List UInt8) (μ : Mu) : runK E.P ρ H174 [] (XG174_7_0 x5 o0_0 o0_1 o0_2 μ) (bodyEnd E.P (resOf E.P 174)) =
 some (.ret (LV.ltup [LV.cv (CV.agg [CV.int .i64 o0_0, CV.int .i64 o0_1, CV.str o0_2]), LV.int .i64 x5]) μ) := by kernel_rfl
theorem nfXG174_7_1 (ρ : Rho) (pv : CV) (μ : Mu) : runK E.P ρ H174 [] (XG174_7_1 pv μ) (bodyEnd E.P (resOf E.P 174)) =
 guardB (below (List.length μ) pv) (some (.panic pv μ)) := by kernel_rfl
theorem nf174 (ρ : Rho) (al : Nat) (ai : Nat) (b : Int) (μ : Mu) : callStep E ρ 174 [LV.cv (CV.ref al ai 0), LV.int .i64 b] μ =
 callK (ρ.call 168 [LV.cv (CV.ref al ai 0), LV.int .i64 b] μ) (fun v1 μ2 =>
 opt (getTup v1) fun xs5 =>
 opt (uncons xs5) fun q6 =>
 opt (getInt .u8 q6.1) fun n7 =>
 opt (uncons q6.2) fun q8 =>
 opt (getInt .i64 q8.1) fun n9 =>
 opt (isNilL q8.2) fun u10 =>
 callK (ρ.call 168 [LV.cv (CV.ref al ai 0), LV.int .i64 n9] μ2) (fun v11 μ12 =>
 opt (getTup v11) fun xs15 =>
 opt (uncons xs15) fun q16 =>
 opt (getInt .u8 q16.1) fun n17 =>
 opt (uncons q16.2) fun q18 =>
 opt (getInt .i64 q18.1) fun n19 =>
 opt (isNilL q18.2) fun u20 =>
 opt (byteCells [CV.int .u8 n7, CV.int .u8 n17]) fun s21 =>
 callK (ρ.call 196 [] μ12) (fun v22 μ23 =>
 opt (getCv v22) fun c26 =>
 opt (mapOf (LV.cv c26) { fr := fun _ => .cv .undef, lam := [Ob.cells [LV.int .i64 (0 : Int), LV.int .i64 (0 : Int), LV.str ([] : List UInt8)]], pushed := false } μ23) fun p27 =>
 guardB (keysOK .string p27.1) (
 optE (mapFind p27.1 p27.2 (Value.string ⟨⟨s21⟩⟩)) (fun c28 =>
 opt (getStr (LV.cv c28)) fun s29 =>
 some (.ret (LV.ltup [LV.cv (CV.agg [CV.int .i64 (2 : Int), CV.int .i64 (0 : Int), CV.str s29]), LV.int .i64 n19]) μ23)) (
 opt (G174_7 ρ n7 n9 n17 n19 s21 (0 : Int) (0 : Int) ([] : List UInt8) μ23) fun st68 => runK E.P ρ H174 [] st68 (bodyEnd E.P (resOf E.P 174))))) (fun v25 μ24 =>
 guardB (below (List.length μ24) v25) (some (.panic v25 μ24)))) (fun v14 μ13 =>
 guardB (below (List.length μ13) v14) (some (.panic v14 μ13)))) (fun v4 μ3 =>
 guardB (below (List.length μ3) v4) (some (.panic v4 μ3))) := by kernel_rfl
noncomputable def L189_1 (ρ : Rho) (x0l : Nat) (x0i : Nat) (x2 : Int) (x6 : Int) (μ : Mu) : Option St := ρ.loop H189 [] (codeAt E.P 189 [1, 0, 0])
 { fr := mkFr [(0, LV.cv (CV.ref x0l x0i 0)), (2, LV.int .i64 x2), (6, LV.int .i64 x6)], lam := [], pushed := false } μ
def XL189_1_0 (μ : Mu) : St := .exit 0 { fr := mkFr [], lam := [], pushed := false } μ
theorem nfL189_1 (ρ : Rho) (x0l : Nat) (x0i : Nat) (x2 : Int) (x6 : Int) (μ : Mu) : roundK E.P ρ H189 [] (codeAt E.P 189 [1, 0, 0])
 { fr := mkFr [(0, LV.cv (CV.ref x0l x0i 0)), (2, LV.int .i64 x2), (6, LV.int .i64 x6)], lam := [], pushed := false } μ =
 cond (decide (x6 < x2)) (
 opt (obTake E.P 38 (muOb μ x0l x0i) 3) fun r1 =>
 opt (getOsl r1.1) fun l2 =>
 guardB (appOK 1 l2 [CV.int .i64 x6]) (
 guardB (belowL (x0l + 1) (l2 ++ [CV.int .i64 x6])) (
 opt (obWrite E.P 38 (muOb (muSet μ x0l x0i r1.2) x0l x0i) 3 (LV.osl (l2 ++ [CV.int .i64 x6]))) fun o3 =>
 L189_1 ρ x0l x0i x2 (IntKind.wrap .i64 (x6 + (1 : Int))) (muSet (muSet μ x0l x0i r1.2) x0l x0i o3)))) (
 some (XL189_1_0 μ)) := by kernel_rfl
theorem nfXL189_1_0 (ρ : Rho) (μ : Mu) : runK E.P ρ H189 [.block 0] (XL189_1_0 μ) (bodyEnd E.P (resOf E.P 189)) =
 some (.ret (LV.ltup []) μ) := by kernel_rfl
theorem nf189 (ρ : Rho) (al : Nat) (ai : Nat) (b : Int) (c : Int) (μ : Mu) : callStep E ρ 189 [LV.cv (CV.ref al ai 0), LV.int .i64 b, LV.int .i64 c] μ =
 opt (L189_1 ρ al ai c b μ) fun st4 => runK E.P ρ H189 [.block 0] st4 (bodyEnd E.P (resOf E.P 189)) := by kernel_rfl
noncomputable def L190_1 (ρ : Rho) (x0l : Nat) (x0i : Nat) (x1 : Int) (μ : Mu) : Option St := ρ.loop H190 [(1, 0)] (codeAt E.P 190 [1, 0, 0, 0])
 { fr := mkFr [(0, LV.cv (CV.ref x0l x0i 0)), (1, LV.int .i64 x1)], lam := [], pushed := false } μ
def XL190_1_0 (x1 : Int) (μ : Mu) : St := .exit 0 { fr := mkFr [(1, LV.int .i64 x1)], lam := [], pushed := false } μ
theorem nfL190_1 (ρ : Rho) (x0l : Nat) (x0i : Nat) (x1 : Int) (μ : Mu) : roundK E.P ρ H190 [(1, 0)] (codeAt E.P 190 [1, 0, 0, 0])
 { fr := mkFr [(0, LV.cv (CV.ref x0l x0i 0)), (1, LV.int .i64 x1)], lam := [], pushed := false } μ =
 opt (obRead E.P 4 (muOb μ x0l x0i) 1) fun v1 =>
 opt (getBool v1) fun b2 =>
 cond (b2) (
 opt (obRead E.P 9 (muOb μ x0l x0i) 0) fun v3 =>
 opt (getStr v3) fun s4 =>
 cond (decide (x1 < (List.length s4 : Int))) (
 opt (obRead E.P 9 (muOb μ x0l x0i) 0) fun v5 =>
 opt (getStr v5) fun s6 =>
 opt (strAt s6 x1) fun y7 =>
 cond (decide ((y7.toNat : Int) = (32 : Int))) (
 L190_1 ρ x0l x0i (IntKind.wrap .i64 (x1 + (1 : Int))) μ) (
 some (XL190_1_0 x1 μ))) (
 some (XL190_1_0 x1 μ))) (
 some (XL190_1_0 x1 μ)) := by kernel_rfl
theorem nfXL190_1_0 (ρ : Rho) (x1 : Int) (μ : Mu) : runK E.P ρ H190 [.block 0, .seq (codeAt E.P 190 [1, 1])] (XL190_1_0 x1 μ) (bodyEnd E.P (resOf E.P 190)) =
 some (.ret (LV.int .i64 x1) μ) := by kernel_rfl
theorem nf190 (ρ : Rho) (al : Nat) (ai : Nat) (b : Int) (μ : Mu) : callStep E ρ 190 [LV.cv (CV.ref al ai 0), LV.int .i64 b] μ =
 opt (L190_1 ρ al ai b μ) fun st8 => runK E.P ρ H190 [.block 0, .seq (codeAt E.P 190 [1, 1])] st8 (bodyEnd E.P (resOf E.P 190)) := by kernel_rfl
noncomputable def G191_5 (ρ : Rho) (x0l : Nat) (x0i : Nat) (x4 : Int) (x9 : Int) (μ : Mu) : Option St := ρ.seg H191 [(4, 0), (5, 0), (6, 0), (7, 0)] (codeAt E.P 191 [1, 1, 1, 1])
 { fr := mkFr [(0, LV.cv (CV.ref x0l x0i 0)), (4, LV.int .u8 x4), (9, LV.int .i64 x9)], lam := [], pushed := false } μ
noncomputable def G191_11 (ρ : Rho) (x0l : Nat) (x0i : Nat) (x4 : Int) (x9 : Int) (x10 : List UInt8) (μ : Mu) : Option St := ρ.seg H191 [(4, 0), (5, 0), (6, 0), (7, 0)] (codeAt E.P 191 [1, 1, 1, 1, 1, 1])
 { fr := mkFr [(0, LV.cv (CV.ref x0l x0i 0)), (4, LV.int .u8 x4), (9, LV.int .i64 x9), (10, LV.str x10)], lam := [], pushed := false } μ
def XG191_11_0 (x4 : Int) (x5 : List UInt8) (x6 : Int) (x7 : Bool) (μ : Mu) : St := .ret { fr := mkFr [(4, LV.int .u8 x4), (5, LV.str x5), (6, LV.int .i64 x6), (7, LV.bool x7)], lam := [], pushed := false } μ
def XG191_11_1 (pv : CV) (μ : Mu) : St := .panic pv { fr := mkFr [], lam := [], pushed := false } μ
def XG191_5_0 (x4 : Int) (x5 : List UInt8) (x6 : Int) (x7 : Bool) (μ : Mu) : St := .ret { fr := mkFr [(4, LV.int .u8 x4), (5, LV.str x5), (6, LV.int .i64 x6), (7, LV.bool x7)], lam := [], pushed := false } μ
def XG191_5_1 (pv : CV) (μ : Mu) : St := .panic pv { fr := mkFr [], lam := [], pushed := false } μ
theorem nfG191_11 (ρ : Rho) (x0l : Nat) (x0i : Nat) (x4 : Int) (x9 : Int) (x10 : List UInt8) (μ : Mu) : segK E.P ρ H191 [(4, 0), (5, 0), (6, 0), (7, 0)] (codeAt E.P 191 [1, 1, 1, 1, 1, 1])
 { fr := mkFr [(0, LV.cv (CV.ref x0l x0i 0)), (4, LV.int .u8 x4), (9, LV.int .i64 x9), (10, LV.str x10)], lam := [], pushed := false } μ =
 callK (ρ.call 169 [LV.cv (CV.ref x0l x0i 0), LV.int .i64 x9, LV.cv (CV.clo 132 [])] μ) (fun v21 μ22 =>
 opt (getTup v21) fun xs25 =>
 opt (uncons xs25) fun q26 =>
 opt (getStr q26.1) fun s27 =>
 opt (uncons q26.2) fun q28 =>
 opt (getInt .i64 q28.1) fun n29 =>
 opt (isNilL q28.2) fun u30 =>
 guardB (small (List.length x10 + List.length s27)) (
 some (XG191_11_0 x4 (x10 ++ s27) n29 (!decide (s27 = ([] : List UInt8))) μ22))) (fun v24 μ23 =>
 some (XG191_11_1 v24 μ23)) := by kernel_rfl
theorem nfXG191_11_0 (ρ : Rho) (x4 : Int) (x5 : List UInt8) (x6 : Int) (x7 : Bool) (μ : Mu) : runK E.P ρ H191 [] (XG191_11_0 x4 x5 x6 x7 μ) (segEnd H191 [(4, 0), (5, 0), (6, 0), (7, 0)]) =
 some (XG191_5_0 x4 x5 x6 x7 μ) := by kernel_rfl
theorem nfG191_5 (ρ : Rho) (x0l : Nat) (x0i : Nat) (x4 : Int) (x9 : Int) (μ : Mu) : segK E.P ρ H191 [(4, 0), (5, 0), (6, 0), (7, 0)] (codeAt E.P 191 [1, 1, 1, 1])
 { fr := mkFr [(0, LV.cv (CV.ref x0l x0i 0)), (4, LV.int .u8 x4), (9, LV.int .i64 x9)], lam := [], pushed := false } μ =
 callK (ρ.call 168 [LV.cv (CV.ref x0l x0i 0), LV.int .i64 x9] μ) (fun v11 μ12 =>
 opt (getTup v11) fun xs15 =>
 opt (uncons xs15) fun q16 =>
 opt (getInt .u8 q16.1) fun n17 =>
 opt (uncons q16.2) fun q18 =>
 opt (getInt .i64 q18.1) fun n19 =>
 opt (isNilL q18.2) fun u20 =>
 cond (decide (n17 = (43 : Int))) (
 cond (decide (n17 = (45 : Int))) (
 opt (G191_11 ρ x0l x0i x4 n19 ([45] : List UInt8) μ12) fun st31 => runK E.P ρ H191 [] st31 (segEnd H191 [(4, 0), (5, 0), (6, 0), (7, 0)])) (
 opt (G191_11 ρ x0l x0i x4 n19 ([] : List UInt8) μ12) fun st32 => runK E.P ρ H191 [] st32 (segEnd H191 [(4, 0), (5, 0), (6, 0), (7, 0)]))) (
 cond (decide (n17 = (45 : Int))) (
 cond (decide (n17 = (45 : Int))) (
 opt (G191_11 ρ x0l x0i x4 n19 ([45] : List UInt8) μ12) fun st33 => runK E.P ρ H191 [] st33 (segEnd H191 [(4, 0), (5, 0), (6, 0), (7, 0)])) (
 opt (G191_11 ρ x0l x0i x4 n19 ([] : List UInt8) μ12) fun st34 => runK E.P ρ H191 [] st34 (segEnd H191 [(4, 0), (5, 0), (6, 0), (7, 0)]))) (
 opt (G191_11 ρ x0l x0i x4 x9 ([] : List UInt8) μ12) fun st35 => runK E.P ρ H191 [] st35 (segEnd H191 [(4, 0), (5, 0), (6, 0), (7, 0)])))) (fun v14 μ13 =>
 some (XG191_5_1 v14 μ13)) := by kernel_rfl
theorem nfXG191_5_0 (ρ : Rho) (x4 : Int) (x5 : List UInt8) (x6 : Int) (x7 : Bool) (μ : Mu) : runK E.P ρ H191 [] (XG191_5_0 x4 x5 x6 x7 μ) (bodyEnd E.P (resOf E.P 191)) =
 some (.ret (LV.ltup [LV.int .u8 x4, LV.str x5, LV.int .i64 x6, LV.bool x7]) μ) := by kernel_rfl
theorem nf191 (ρ : Rho) (al : Nat) (ai : Nat) (b : Int) (μ : Mu) : callStep E ρ 191 [LV.cv (CV.ref al ai 0), LV.int .i64 b] μ =
 callK (ρ.call 168 [LV.cv (CV.ref al ai 0), LV.int .i64 b] μ) (fun v1 μ2 =>
 opt (getTup v1) fun xs5 =>
 opt (uncons xs5) fun q6 =>
 opt (getInt .u8 q6.1) fun n7 =>
 opt (uncons q6.2) fun q8 =>
 opt (getInt .i64 q8.1) fun n9 =>
 opt (isNilL q8.2) fun u10 =>
 cond (!decide (IntKind.wrap .u8 ((BitVec.ofInt (IntKind.bits .u8) n7 &&& ~~~BitVec.ofInt (IntKind.bits .u8) (32 : Int)).toNat : Int) = (69 : Int))) (
 cond (!decide (IntKind.wrap .u8 ((BitVec.ofInt (IntKind.bits .u8) n7 &&& ~~~BitVec.ofInt (IntKind.bits .u8) (32 : Int)).toNat : Int) = (68 : Int))) (
 some (.ret (LV.ltup [LV.int .u8 (0 : Int), LV.str ([] : List UInt8), LV.int .i64 b, LV.bool false]) μ2)) (
 opt (G191_5 ρ al ai (IntKind.wrap .u8 ((BitVec.ofInt (IntKind.bits .u8) n7 &&& ~~~BitVec.ofInt (IntKind.bits .u8) (32 : Int)).toNat : Int)) n9 μ2) fun st36 => runK E.P ρ H191 [] st36 (bodyEnd E.P (resOf E.P 191)))) (
 opt (G191_5 ρ al ai (IntKind.wrap .u8 ((BitVec.ofInt (IntKind.bits .u8) n7 &&& ~~~BitVec.ofInt (IntKind.bits .u8) (32 : Int)).toNat : Int)) n9 μ2) fun st37 => runK E.P ρ H191 [] st37 (bodyEnd E.P (resOf E.P 191)))) (fun v4 μ3 =>
 guardB (below (List.length μ3) v4) (some (.panic v4 μ3))) := by kernel_rfl
theorem nf192 (ρ : Rho) (a : List UInt8) (μ : Mu) : callStep E ρ 192 [LV.str a] μ =
 callK (ρ.call 45 [LV.str a] μ) (fun v1 μ2 =>
 opt (getTup v1) fun xs5 =>
 opt (uncons xs5) fun q6 =>
 opt (getInt .i64 q6.1) fun n7 =>
 opt (uncons q6.2) fun q8 =>
 opt (getCv q8.1) fun c9 =>
 opt (isNilL q8.2) fun u10 =>
 cond (decide ((10 : Int) < (List.length a : Int))) (
 callK (ρ.call 170 [LV.int .i64 (28 : Int)] μ2) (fun v11 μ12 =>
 opt (getTup v11) fun xs15 =>
 opt (isNilL xs15) fun u16 =>
 callK (ρ.call 66 [LV.int .i64 n7] μ12) (fun v17 μ18 =>
 opt (getStr v17) fun s21 =>
 some (.ret (LV.cv (CV.agg [CV.int .i64 (1 : Int), CV.int .i64 (0 : Int), CV.str s21])) μ18)) (fun v20 μ19 =>
 guardB (below (List.length μ19) v20) (some (.panic v20 μ19)))) (fun v14 μ13 =>
 guardB (below (List.length μ13) v14) (some (.panic v14 μ13)))) (
 opt (nilIf (LV.cv c9)) fun b22 =>
 cond (!b22) (
 callK (ρ.call 170 [LV.int .i64 (28 : Int)] μ2) (fun v23 μ24 =>
 opt (getTup v23) fun xs27 =>
 opt (isNilL xs27) fun u28 =>
 callK (ρ.call 66 [LV.int .i64 n7] μ24) (fun v29 μ30 =>
 opt (getStr v29) fun s33 =>
 some (.ret (LV.cv (CV.agg [CV.int .i64 (1 : Int), CV.int .i64 (0 : Int), CV.str s33])) μ30)) (fun v32 μ31 =>
 guardB (below (List.length μ31) v32) (some (.panic v32 μ31)))) (fun v26 μ25 =>
 guardB (below (List.length μ25) v26) (some (.panic v26 μ25)))) (
 cond (decide ((2147483647 : Int) < n7)) (
 callK (ρ.call 170 [LV.int .i64 (28 : Int)] μ2) (fun v34 μ35 =>
 opt (getTup v34) fun xs38 =>
 opt (isNilL xs38) fun u39 =>
 callK (ρ.call 66 [LV.int .i64 n7] μ35) (fun v40 μ41 =>
 opt (getStr v40) fun s44 =>
 some (.ret (LV.cv (CV.agg [CV.int .i64 (1 : Int), CV.int .i64 (0 : Int), CV.str s44])) μ41)) (fun v43 μ42 =>
 guardB (below (List.length μ42) v43) (some (.panic v43 μ42)))) (fun v37 μ36 =>
 guardB (below (List.length μ36) v37) (some (.panic v37 μ36)))) (
 callK (ρ.call 66 [LV.int .i64 n7] μ2) (fun v45 μ46 =>
 opt (getStr v45) fun s49 =>
 some (.ret (LV.cv (CV.agg [CV.int .i64 (1 : Int), CV.int .i64 (0 : Int), CV.str s49])) μ46)) (fun v48 μ47 =>
 guardB (below (List.length μ47) v48) (some (.panic v48 μ47))))))) (fun v4 μ3 =>
 guardB (below (List.length μ3) v4) (some (.panic v4 μ3))) := by kernel_rfl
theorem nf193 (ρ : Rho) (a : List UInt8) (b : List UInt8) (μ : Mu) : callStep E ρ 193 [LV.str a, LV.str b] μ =
 callK (ρ.call 62 [LV.str a, LV.str ([48] : List UInt8)] μ) (fun v1 μ2 =>
 opt (getStr v1) fun s5 =>
 callK (ρ.call 63 [LV.str b, LV.str ([48] : List UInt8)] μ2) (fun v6 μ7 =>
 opt (getStr v6) fun s10 =>
 some (.ret (LV.int .i64 (IntKind.wrap .i64 ((List.length s5 : Int) + (List.length s10 : Int)))) μ7)) (fun v9 μ8 =>
 guardB (below (List.length μ8) v9) (some (.panic v9 μ8)))) (fun v4 μ3 =>
 guardB (below (List.length μ3) v4) (some (.panic v4 μ3))) := by kernel_rfl
theorem nf196 (ρ : Rho) (μ : Mu) : callStep E ρ 196 [] μ =
 some (.ret (LV.cv (CV.mview [Value.string ⟨⟨([60, 61] : List UInt8)⟩⟩, Value.string ⟨⟨([62, 61] : List UInt8)⟩⟩, Value.string ⟨⟨([61, 61] : List UInt8)⟩⟩, Value.string ⟨⟨([47, 61] : List UInt8)⟩⟩, Value.string ⟨⟨([60] : List UInt8)⟩⟩, Value.string ⟨⟨([62] : List UInt8)⟩⟩] [CV.str ([46, 76, 69, 46] : List UInt8), CV.str ([46, 71, 69, 46] : List UInt8), CV.str ([46, 69, 81, 46] : List UInt8), CV.str ([46, 78, 69, 46] : List UInt8), CV.str ([46, 76, 84, 46] : List UInt8), CV.str ([46, 71, 84, 46] : List UInt8)])) μ) := by kernel_rfl
end Go.Abs
