/-
  The statement TokensConstantsCardSaid, proved; part 5 of 8 of its proof.
  The library's functions that are taken by contract: strings and numbers.
  What the rows' listed variables give in a world that begins as they say.
  A world in which the listed variables hold what the rows say: the witness of all laws of this chapter.
  A law's arguments of plain data as values of the abstract interpreter; and that they read behind a call that turns nothing as they did.
  Small facts for the laws of the tokens' functions.
-/
import Derived.Test.YtfcjjankfjaapaaGreatDoorC3
import Derived.Lib.CaseU
import Derived.Lib.SmallJoins
import Derived.Lib.SplitLaws
import Derived.Lib.DecodeN
import Derived.Test.YtfcjjankfjaapaaGreatDoorRows
import Derived.PinnedBridge
import Derived.Lib.LaidU8T
import Derived.Stop.LaidErr
import Derived.Shelf.Vars
import Derived.ProofKit
import Derived.Great.CaseRows
import Derived.Lib.LaidIn
import Derived.Deep.DeepHandedRow
import Derived.Deep.DeepWitnessRowRef
import Derived.OpenShut
import Derived.Deep.Slices
import Derived.ChangeStays
import Derived.ChangeBook
set_option linter.all false
set_option linter.unusedSectionVars false
set_option linter.unusedVariables false
set_option linter.unusedSimpArgs false
set_option maxRecDepth 100000
namespace Go.Abs
open Go Go.Proofs Go.RowKit
structure Base (W0 : World) : Prop where
 max : ∃ m : Int, W0.cell? ⟨2, 0, none⟩ = some (.int .i64 m)
 case : Lib.CaseVar 3 Lib.caseA W0
 utf8 : Lib.Utf8Tabs 4 5 W0
 pow : Lib.TabIs Tryz.prog W0 "internal/strconv.uint64pow10" .u64 Lib.pow10Tab
 esyn : ∃ tp p, World.var? Tryz.prog W0 "strconv.ErrSyntax" = some #[.iface tp p]
 erng : ∃ tp p, World.var? Tryz.prog W0 "strconv.ErrRange" = some #[.iface tp p]
section
variable {W0 w : World}
theorem cell_kept (h : ∀ b, b < W0.heap.size → w.heap[b]? = W0.heap[b]?) {p : Addr} {v : Value} (hc : W0.cell? p = some v) : w.cell? p = some v := by
 have hp := cell_in hc
 rw [← hc]
 unfold World.cell?
 rw [h _ hp]
theorem var_kept (h : ∀ b, b < W0.heap.size → w.heap[b]? = W0.heap[b]?) {n : String} {v : Array Value} (hv : World.var? Tryz.prog W0 n = some v) : World.var? Tryz.prog w n = some v := by
 rw [← hv]
 unfold World.var? at hv ⊢
 cases hg : Tryz.prog.globalNamed n with
 | none => rfl
 | some g =>
  rw [hg] at hv
  simp only [Option.bind_some] at hv ⊢
  have hlt : g < W0.heap.size := by
   rcases Nat.lt_or_ge g W0.heap.size with h1 | h1
   ·exact h1
   ·rw [Array.getElem?_eq_none h1] at hv; simp at hv
  rw [h g hlt]
theorem Base.kept (B : Base W0) (h : ∀ b, b < W0.heap.size → w.heap[b]? = W0.heap[b]?) : Base w := by
 obtain ⟨m, hm⟩ := B.max
 obtain ⟨R, oR, cap, h1, h2⟩ := B.case
 obtain ⟨t1, p1, e1⟩ := B.esyn
 obtain ⟨t2, p2, e2⟩ := B.erng
 refine ⟨⟨m, cell_kept h hm⟩, ⟨R, oR, cap, cell_kept h h1, fun i hi => ?_⟩, ⟨fun c hc => cell_kept h (B.utf8.1 c hc), fun i hi => ⟨cell_kept h (B.utf8.2 i hi).1, cell_kept h (B.utf8.2 i hi).2⟩⟩, var_kept h B.pow, ⟨t1, p1, var_kept h e1⟩, ⟨t2, p2, var_kept h e2⟩⟩
 obtain ⟨a, b, c, d, e⟩ := h2 i hi
 exact ⟨cell_kept h a, cell_kept h b, cell_kept h c, cell_kept h d, cell_kept h e⟩
theorem getStr_inv {x : LV} {s : List UInt8} (h : getStr x = some s) : x = LV.str s := by
 unfold getStr at h
 split at h
 ·rename_i b
  injection h with h
  subst h
  rfl
 ·cases h
theorem getInt_inv {k : IntKind} {x : LV} {n : Int} (h : getInt k x = some n) : x = LV.int k n := by
 unfold getInt at h
 split at h
 ·rename_i k' m
  by_cases hk : k = k'
  ·subst hk
   simp at h
   subst h
   rfl
  ·simp [hk] at h
 ·cases h
theorem opt_inv {α β : Type} {x : Option α} {f : α → Option β} {r : β} (h : opt x f = some r) : ∃ a, x = some a ∧ f a = some r := by
 cases x with
 | none => cases h
 | some a => exact ⟨a, rfl, h⟩
theorem uncons_inv {α : Type} {l : List α} {q : α × List α} (h : uncons l = some q) : l = q.1 :: q.2 := by
 cases l with
 | nil => cases h
 | cons a r => injection h with h; subst h; rfl
theorem isNilL_inv {α : Type} {l : List α} {u : Unit} (h : isNilL l = some u) : l = [] := by
 cases l with
 | nil => rfl
 | cons a r => cases h
theorem guard_inv {β : Type} {b : Bool} {k : Option β} {r : β} (h : guardB b k = some r) : b = true ∧ k = some r := by
 cases b with
 | false => cases h
 | true => exact ⟨rfl, h⟩
theorem prim1_inv {g : List UInt8 → Option LV} {args : List LV} {μ : Mu} {out : Out} (h : prim1 g args μ = some out) : ∃ s v, args = [LV.str s] ∧ g s = some v ∧ out = .ret v μ := by
 unfold prim1 at h
 obtain ⟨q, hq, h⟩ := opt_inv h
 obtain ⟨u, hu, h⟩ := opt_inv h
 obtain ⟨s, hs, h⟩ := opt_inv h
 obtain ⟨v, hv, h⟩ := opt_inv h
 injection h with h
 refine ⟨s, v, ?_, hv, h.symm⟩
 rw [uncons_inv hq, isNilL_inv hu, getStr_inv hs]
theorem prim2_inv {g : List UInt8 → List UInt8 → Option LV} {args : List LV} {μ : Mu} {out : Out} (h : prim2 g args μ = some out) : ∃ s t v, args = [LV.str s, LV.str t] ∧ g s t = some v ∧ out = .ret v μ := by
 unfold prim2 at h
 obtain ⟨q, hq, h⟩ := opt_inv h
 obtain ⟨r, hr, h⟩ := opt_inv h
 obtain ⟨u, hu, h⟩ := opt_inv h
 obtain ⟨s, hs, h⟩ := opt_inv h
 obtain ⟨t, ht, h⟩ := opt_inv h
 obtain ⟨v, hv, h⟩ := opt_inv h
 injection h with h
 refine ⟨s, t, v, ?_, hv, h.symm⟩
 rw [uncons_inv hq, uncons_inv hr, isNilL_inv hu, getStr_inv hs, getStr_inv ht]
theorem prim3_inv {g : List UInt8 → List UInt8 → List UInt8 → Option LV} {args : List LV} {μ : Mu} {out : Out} (h : prim3 g args μ = some out) : ∃ s t z v, args = [LV.str s, LV.str t, LV.str z] ∧ g s t z = some v ∧ out = .ret v μ := by
 unfold prim3 at h
 obtain ⟨q, hq, h⟩ := opt_inv h
 obtain ⟨r, hr, h⟩ := opt_inv h
 obtain ⟨x, hx, h⟩ := opt_inv h
 obtain ⟨u, hu, h⟩ := opt_inv h
 obtain ⟨s, hs, h⟩ := opt_inv h
 obtain ⟨t, ht, h⟩ := opt_inv h
 obtain ⟨z, hz, h⟩ := opt_inv h
 obtain ⟨v, hv, h⟩ := opt_inv h
 injection h with h
 refine ⟨s, t, z, v, ?_, hv, h.symm⟩
 rw [uncons_inv hq, uncons_inv hr, uncons_inv hx, isNilL_inv hu, getStr_inv hs, getStr_inv ht, getStr_inv hz]
theorem has_body {f : FuncId} {fn : Func} (h : Tryz.prog.funcs[f]? = some fn) (h2 : fn.body.isSome = true) (h3 : (fn.name == "runtime.NumGoroutine") = false) : ∃ fn c, E.P.funcs[f]? = some fn ∧ fn.body = some c ∧ (fn.name == "runtime.NumGoroutine") = false := by
 obtain ⟨c, hc⟩ := Option.isSome_iff_exists.1 h2
 exact ⟨fn, c, h, hc, h3⟩
variable {μ : Mu}
theorem meets_one {f : FuncId} {vals : List Value} {r : Value} (hf : ∃ fn c, E.P.funcs[f]? = some fn ∧ fn.body = some c ∧ (fn.name == "runtime.NumGoroutine") = false) (B : Base W0)
  (hc : ∀ w : World, Base w → Calls Tryz.prog f vals.toArray w fun e w' => e = .returned r ∧ Below w.heap.size w w') :
  Meets E.P W0 f (vals.map fun v => LV.cv (.v v)) μ (.ret (.cv (.v r)) μ) :=
 meets_flat hf fun w h1 h2 => hc w (B.kept h2)
theorem LVRL_flat {G : Gh} {L : Nat} : ∀ (rs : List Value), LVRL G w L 0 (rs.map fun v => LV.cv (.v v)) rs
 | [] => rfl
 | r :: rs => by
  refine ⟨r, rs, rfl, ?_, rfl, LVRL_flat rs⟩
  intro xs h
  cases h
theorem meets_tup {f : FuncId} {vals rs : List Value} (hf : ∃ fn c, E.P.funcs[f]? = some fn ∧ fn.body = some c ∧ (fn.name == "runtime.NumGoroutine") = false) (B : Base W0)
  (hc : ∀ w : World, Base w → Calls Tryz.prog f vals.toArray w fun e w' => e = .returned (.tuple rs.toArray) ∧ Below w.heap.size w w') :
  Meets E.P W0 f (vals.map fun v => LV.cv (.v v)) μ (.ret (.ltup (rs.map fun v => LV.cv (.v v))) μ) := by
 refine meets_prim hf fun G w cargs hs hv h1 h2 => ?_
 rw [args_eq hs hv]
 refine (hc w (B.kept h2)).mono fun e w' ⟨h3, h4⟩ => ⟨_, h3, h4, ⟨rs.toArray, rfl, LVRL_flat rs⟩, fun b h => by simp [Owns] at h⟩
theorem same_below {w' : World} (h : w' = w) : Below w.heap.size w w' := by subst h; exact Below.refl _ _
theorem drewN_below (n : Nat) : Below w.heap.size w (w.drewN n) := ⟨rfl, rfl, rfl, Nat.le_refl _, fun _ _ => rfl⟩
theorem short_size {s : List UInt8} (h : short s = true) : (⟨⟨s⟩⟩ : ByteArray).size ≤ 1000000 := by
 unfold short at h
 exact of_decide_eq_true h
theorem ok_toUpper (B : Base W0) {args : List LV} {out : Out} (h : pToUpper args μ = some out) : Meets E.P W0 91 args μ out := by
 obtain ⟨s, v, rfl, hg, rfl⟩ := prim1_inv h
 obtain ⟨h1, h2⟩ := guard_inv hg
 injection h2 with h2
 subst h2
 have hl := short_size h1
 exact meets_one (vals := [.string ⟨⟨s⟩⟩]) (has_body Tryz.func91 rfl (by kernel_rfl)) B fun w b => Tryz.strings_ToUpper_any ⟨⟨s⟩⟩ w (by omega) b.case b.utf8
theorem ok_hasPrefix (B : Base W0) {args : List LV} {out : Out} (h : pHasPrefix args μ = some out) : Meets E.P W0 195 args μ out := by
 obtain ⟨s, t, v, rfl, hg, rfl⟩ := prim2_inv h
 injection hg with hg
 subst hg
 exact meets_one (vals := [.string ⟨⟨s⟩⟩, .string ⟨⟨t⟩⟩]) (has_body Tryz.func195 rfl (by kernel_rfl)) B fun w b => (Tryz.strings_HasPrefix ⟨⟨s⟩⟩ ⟨⟨t⟩⟩ w).mono fun e w' ⟨h1, h2⟩ => ⟨h1, same_below h2⟩
theorem ok_trimPrefix (B : Base W0) {args : List LV} {out : Out} (h : pTrimPrefix args μ = some out) : Meets E.P W0 194 args μ out := by
 obtain ⟨s, t, v, rfl, hg, rfl⟩ := prim2_inv h
 injection hg with hg
 subst hg
 exact meets_one (vals := [.string ⟨⟨s⟩⟩, .string ⟨⟨t⟩⟩]) (has_body Tryz.func194 rfl (by kernel_rfl)) B fun w b => (Tryz.strings_TrimPrefix ⟨⟨s⟩⟩ ⟨⟨t⟩⟩ w).mono fun e w' ⟨h1, h2⟩ => ⟨h1, same_below h2⟩
theorem oneB_inv {t : List UInt8} {c : UInt8} (h : oneB t = some c) : t = [c] := by
 unfold oneB at h
 split at h
 ·injection h with h; subst h; rfl
 ·cases h
theorem ok_trimLeft (B : Base W0) {args : List LV} {out : Out} (h : pTrimLeft args μ = some out) : Meets E.P W0 62 args μ out := by
 obtain ⟨s, t, v, rfl, hg, rfl⟩ := prim2_inv h
 obtain ⟨c, hc, hg⟩ := opt_inv hg
 obtain ⟨h1, h2⟩ := guard_inv hg
 injection h2 with h2
 subst h2
 have := oneB_inv hc
 subst this
 exact meets_one (vals := [.string ⟨⟨s⟩⟩, .string ⟨⟨[c]⟩⟩]) (has_body Tryz.func62 rfl (by kernel_rfl)) B fun w b => (Tryz.strings_TrimLeft_one ⟨⟨s⟩⟩ c (of_decide_eq_true h1) w).mono fun e w' ⟨h1, h2⟩ => ⟨h1, same_below h2⟩
theorem ok_trimRight (B : Base W0) {args : List LV} {out : Out} (h : pTrimRight args μ = some out) : Meets E.P W0 63 args μ out := by
 obtain ⟨s, t, v, rfl, hg, rfl⟩ := prim2_inv h
 obtain ⟨c, hc, hg⟩ := opt_inv hg
 obtain ⟨h1, h2⟩ := guard_inv hg
 injection h2 with h2
 subst h2
 have := oneB_inv hc
 subst this
 rw [Bool.and_eq_true] at h1
 have hl := short_size h1.2
 exact meets_one (vals := [.string ⟨⟨s⟩⟩, .string ⟨⟨[c]⟩⟩]) (has_body Tryz.func63 rfl (by kernel_rfl)) B fun w b => (Tryz.strings_TrimRight_one ⟨⟨s⟩⟩ c (of_decide_eq_true h1.1) w (by omega)).mono fun e w' ⟨h1, h2⟩ => ⟨h1, same_below h2⟩
theorem ok_index (B : Base W0) {args : List LV} {out : Out} (h : pIndex args μ = some out) : Meets E.P W0 145 args μ out := by
 obtain ⟨s, t, v, rfl, hg, rfl⟩ := prim2_inv h
 obtain ⟨h1, h2⟩ := guard_inv hg
 injection h2 with h2
 subst h2
 have hl := short_size h1
 refine meets_one (vals := [.string ⟨⟨s⟩⟩, .string ⟨⟨t⟩⟩]) (has_body Tryz.func145 rfl (by kernel_rfl)) B fun w b => ?_
 obtain ⟨m, hm⟩ := b.max
 exact (Tryz.strings_Index ⟨⟨s⟩⟩ ⟨⟨t⟩⟩ m w (by omega) hm).mono fun e w' ⟨h1, h2⟩ => ⟨h1, same_below h2⟩
theorem ok_contains (B : Base W0) {args : List LV} {out : Out} (h : pContains args μ = some out) : Meets E.P W0 115 args μ out := by
 obtain ⟨s, t, v, rfl, hg, rfl⟩ := prim2_inv h
 obtain ⟨h1, h2⟩ := guard_inv hg
 injection h2 with h2
 subst h2
 have hl := short_size h1
 refine meets_one (vals := [.string ⟨⟨s⟩⟩, .string ⟨⟨t⟩⟩]) (has_body Tryz.func115 rfl (by kernel_rfl)) B fun w b => ?_
 obtain ⟨m, hm⟩ := b.max
 exact (Tryz.strings_Contains ⟨⟨s⟩⟩ ⟨⟨t⟩⟩ m w (by omega) hm).mono fun e w' ⟨h1, h2⟩ => ⟨h1, same_below h2⟩
theorem ok_cut (B : Base W0) {args : List LV} {out : Out} (h : pCut args μ = some out) : Meets E.P W0 61 args μ out := by
 obtain ⟨s, t, v, rfl, hg, rfl⟩ := prim2_inv h
 obtain ⟨h1, h2⟩ := guard_inv hg
 injection h2 with h2
 subst h2
 have hl := short_size h1
 refine meets_tup (vals := [.string ⟨⟨s⟩⟩, .string ⟨⟨t⟩⟩]) (rs := [.string ⟨⟨(Lib.cut s t).1⟩⟩, .string ⟨⟨(Lib.cut s t).2.1⟩⟩, .bool (Lib.cut s t).2.2]) (has_body Tryz.func61 rfl (by kernel_rfl)) B fun w b => ?_
 obtain ⟨m, hm⟩ := b.max
 refine (Tryz.strings_Cut ⟨⟨s⟩⟩ ⟨⟨t⟩⟩ m w (by omega) hm).mono fun e w' ⟨h1, n, h2⟩ => ⟨h1, ?_⟩
 subst h2
 exact drewN_below n
theorem ok_indexAny (B : Base W0) {args : List LV} {out : Out} (h : pIndexAny args μ = some out) : Meets E.P W0 60 args μ out := by
 obtain ⟨s, t, v, rfl, hg, rfl⟩ := prim2_inv h
 obtain ⟨h1, h2⟩ := guard_inv hg
 injection h2 with h2
 subst h2
 simp only [Bool.and_eq_true] at h1
 obtain ⟨⟨⟨a1, a2⟩, a3⟩, a4⟩ := h1
 have hl := short_size a1
 have hl2 := short_size a2
 have asc : ∀ {l : List UInt8}, asciiB l = true → ∀ (j : Nat) (b : UInt8), l[j]? = some b → b.toNat < 128 := by
  intro l hl j b hb
  unfold asciiB at hl
  rw [List.all_eq_true] at hl
  exact of_decide_eq_true (hl b (List.mem_of_getElem? hb))
 exact meets_one (vals := [.string ⟨⟨s⟩⟩, .string ⟨⟨t⟩⟩]) (has_body Tryz.func60 rfl (by kernel_rfl)) B fun w b => Tryz.strings_IndexAny_laid ⟨⟨s⟩⟩ ⟨⟨t⟩⟩ w (by omega) (by omega) (asc a3) (asc a4)
theorem ok_itoa (B : Base W0) {args : List LV} {out : Out} (h : pItoa args μ = some out) : Meets E.P W0 66 args μ out := by
 unfold pItoa at h
 obtain ⟨q, hq, h⟩ := opt_inv h
 obtain ⟨u, hu, h⟩ := opt_inv h
 obtain ⟨n, hn, h⟩ := opt_inv h
 obtain ⟨h1, h2⟩ := guard_inv h
 injection h2 with h2
 subst h2
 have hx : q.1 = LV.int .i64 n := by
  exact getInt_inv hn
 rw [uncons_inv hq, isNilL_inv hu, hx]
 rw [Bool.and_eq_true] at h1
 refine meets_one (vals := [.int .i64 n]) (has_body Tryz.func66 rfl (by kernel_rfl)) B fun w b => ?_
 refine (Tryz.strconv_Itoa n (of_decide_eq_true h1.1) (of_decide_eq_true h1.2) w b.pow).mono fun e w' ⟨h3, k, os, h4⟩ => ⟨h3, ?_⟩
 subst h4
 have h5 : Below w.heap.size w (w.drewN k) := drewN_below k
 refine Below.trans h5 ⟨rfl, rfl, rfl, by simp [«Sort».grow], fun j hj => ?_⟩
 have : j < (w.drewN k).heap.size := Nat.lt_of_lt_of_le hj h5.size
 simp only [«Sort».grow]
 rw [Array.getElem?_append_left this]
theorem ok_replaceAll (B : Base W0) {args : List LV} {out : Out} (h : pReplaceAll args μ = some out) : Meets E.P W0 84 args μ out := by
 obtain ⟨s, t, z, v, rfl, hg, rfl⟩ := prim3_inv h
 obtain ⟨h1, h2⟩ := guard_inv hg
 injection h2 with h2
 subst h2
 simp only [Bool.and_eq_true] at h1
 obtain ⟨⟨a1, a2⟩, a3⟩ := h1
 have hl := short_size a1
 have hl2 := short_size a2
 have h1' : 1 ≤ (⟨⟨t⟩⟩ : ByteArray).size := of_decide_eq_true a3
 refine meets_one (vals := [.string ⟨⟨s⟩⟩, .string ⟨⟨t⟩⟩, .string ⟨⟨z⟩⟩]) (has_body Tryz.func84 rfl (by kernel_rfl)) B fun w b => ?_
 obtain ⟨m, hm⟩ := b.max
 have hc := Lib.countB_le ⟨⟨t⟩⟩ h1' _ ⟨⟨s⟩⟩ (Nat.le_refl _)
 refine Tryz.strings_ReplaceAll ⟨⟨s⟩⟩ ⟨⟨t⟩⟩ ⟨⟨z⟩⟩ m w (by omega) hm h1' ?_
 have : Lib.countB ⟨⟨s⟩⟩ ⟨⟨t⟩⟩ * (⟨⟨z⟩⟩ : ByteArray).size ≤ 1000000 * 1000000 := Nat.mul_le_mul (by omega) hl2
 omega
theorem lvr_err {G : Gh} {L : Nat} {n : Int} {v : Value} : LVR G w L 0 (.ltup [LV.int .i64 n, .cv (.iface 146 .undef)]) (.tuple #[.int .i64 n, .iface 146 v]) := by
 refine ⟨_, rfl, _, _, rfl, ?_, rfl, _, _, rfl, ?_, ⟨v, rfl, trivial⟩, rfl⟩
 ·intro xs h; cases h
 ·intro xs h; cases h
theorem ok_atoi (B : Base W0) {args : List LV} {out : Out} (h : pAtoi 146 args μ = some out) : Meets E.P W0 45 args μ out := by
 obtain ⟨s, v, rfl, hg, rfl⟩ := prim1_inv h
 obtain ⟨h1, h2⟩ := guard_inv hg
 injection h2 with h2
 subst h2
 have hl := short_size h1
 unfold atoiV
 cases ha : Lib.atoiAll s
 ·rename_i n
  refine meets_tup (vals := [.string ⟨⟨s⟩⟩]) (rs := [.int .i64 n, .nilIface]) (has_body Tryz.func45 rfl (by kernel_rfl)) B fun w b => ?_
  refine (Tryz.strconv_Atoi_ok ⟨⟨s⟩⟩ (by omega) n ha w).mono fun e w' ⟨h3, h4⟩ => ⟨h3, ?_⟩
  rcases h4 with rfl | ⟨t, rfl⟩
  ·exact Below.refl _ _
  ·exact Joins.below_bytesWorld _ _ _ _ (Nat.le_refl _)
 ·refine meets_prim (has_body Tryz.func45 rfl (by kernel_rfl)) fun G w cargs hs hv k1 k2 => ?_
  rw [args_eq (vals := [.string ⟨⟨s⟩⟩]) hs hv]
  obtain ⟨tp, p, hp⟩ := (B.kept k2).esyn
  refine (Tryz.strconv_Atoi_syntax_var ⟨⟨s⟩⟩ (by omega) (fun v e => by rw [ha] at e; cases e) (fun e => by rw [ha] at e; cases e) tp p w hp).mono fun e w' ⟨N, h3, _, _, h4⟩ => ⟨_, h3, h4, lvr_err, fun b h => by simp [Owns] at h⟩
 ·refine meets_prim (has_body Tryz.func45 rfl (by kernel_rfl)) fun G w cargs hs hv k1 k2 => ?_
  rw [args_eq (vals := [.string ⟨⟨s⟩⟩]) hs hv]
  obtain ⟨tp, p, hp⟩ := (B.kept k2).erng
  refine (Tryz.strconv_Atoi_range_var ⟨⟨s⟩⟩ (by omega) ha tp p w hp).mono fun e w' ⟨N, h3, _, _, h4⟩ => ⟨_, h3, h4, lvr_err, fun b h => by simp [Owns] at h⟩
theorem decodeN_low {n b0 b1 b2 b3 : Nat} (h : b0 < 128) : Lib.decodeN n b0 b1 b2 b3 = (b0, 1) := by unfold Lib.decodeN; rw [if_pos h]
theorem decodeN_high {n b0 b1 b2 b3 : Nat} (h : ¬ b0 < 128) : 128 ≤ (Lib.decodeN n b0 b1 b2 b3).1 := by
 unfold Lib.decodeN
 rw [if_neg h]
 repeat' split
 all_goals first | omega | (simp only; omega)
theorem idx_any {p : Nat → Bool} {q : UInt8 → Bool} (h1 : ∀ b : UInt8, b.toNat < 128 → p b.toNat = q b) (h2 : ∀ x, 128 ≤ x → p x = true) (h3 : ∀ b : UInt8, 128 ≤ b.toNat → q b = true) (s : List UInt8) :
  ∀ (f pos : Nat), s.length ≤ f + pos → decide (0 ≤ Lib.idxFuncFrom p true ⟨⟨s⟩⟩ f pos) = (s.drop pos).any q
 | 0, pos, hf => by
  rw [List.drop_eq_nil_of_le (by omega)]
  rfl
 | f + 1, pos, hf => by
  unfold Lib.idxFuncFrom
  have hsz : (⟨⟨s⟩⟩ : ByteArray).size = s.length := rfl
  by_cases hlt : pos < s.length
  ·rw [if_pos (by rw [hsz]; exact hlt), Lib.decode_at, List.drop_eq_getElem_cons hlt, List.any_cons]
   have hg : ((⟨⟨s⟩⟩ : ByteArray).get! pos) = s[pos] := by
    simp [ByteArray.get!, hlt]
   rw [hg]
   by_cases hb : s[pos].toNat < 128
   ·rw [decodeN_low hb]
    simp only
    rw [h1 _ hb]
    cases hq : q s[pos] with
    | true => simp
    | false =>
     rw [if_neg (by simp), idx_any h1 h2 h3 s f (pos + 1) (by omega), Bool.false_or]
   ·rw [h2 _ (decodeN_high hb), if_pos rfl, h3 _ (by omega)]
    simp
  ·rw [if_neg (by rw [hsz]; exact hlt), List.drop_eq_nil_of_le (by omega)]
   rfl
noncomputable def E0 : Env := { E with prim := fun _ => none }
theorem prims0 (W : World) : PrimsOK E0 W := fun f g h => by cases h
theorem mixed0 : E0.P.follows .mixedOrders = true := by kernel_rfl
theorem pred_meets {g : FuncId} {p : Nat → Bool} (hr : ∀ x : Nat, (ev E0).call g [LV.int .i32 (x : Int)] [] = some (.ret (LV.bool (p x)) [])) : PredGrows Tryz.prog g #[] p w := by
 intro W x hx hb
 have hm := ev_meets mixed0 (prims0 W) (hr x)
 have he : (#[encR x] ++ (#[] : Array Value)) = #[encR x] := rfl
 rw [he]
 obtain ⟨R, hT⟩ := Rel.top (w := W) (args := [CV.int .i32 (x : Int)]) (cargs := #[encR x]) (by
  intro j y hy
  cases j with
  | zero => simp at hy; subst hy; simp [VR]
  | succ j => simp at hy)
 refine (hm.2 (Gh.top W) W #[encR x] rfl R ⟨Nat.le_refl _, fun b _ => ⟨rfl, hT b⟩⟩).mono fun e w' h => ?_
 cases e with
 | returned cv =>
  simp only [RetR] at h
  obtain ⟨O', R', E⟩ := h
  have h0 := R'.fr 0
  simp only [argS_fr, List.getElem?_cons_zero, Option.getD_some, LVR, VR] at h0
  have : cv = .bool (p x) := by simpa using h0
  subst this
  exact ⟨rfl, E.os, E.tape, E.output, E.size, fun b hb => (E.keep b hb (hT b)).1⟩
 | panicked ch => exact h.elim
 | _ => exact h.elim
theorem callK_r {β : Type} {v : LV} {k : LV → Mu → Option β} {p : CV → Mu → Option β} : callK (some (.ret v μ)) k p = k v μ := rfl
theorem opt_so {α β : Type} {a : α} {k : α → Option β} : opt (some a) k = k a := rfl
theorem dIn (a b : Nat) : decide ((a : Int) < (b : Int)) = decide (a < b) := by simp
theorem p122 (x : Nat) : (ev E0).call 122 [LV.int .i32 (x : Int)] [] = some (.ret (LV.bool (decide (x < 32) || decide (126 < x))) []) := by
 refine ev_call ?_
 have : callStep E0 (ev E0) 122 [LV.int .i32 (x : Int)] [] = cond (decide ((x : Int) < 32)) (some (.ret (LV.bool true) [])) (some (.ret (LV.bool (decide ((126 : Int) < (x : Int)))) [])) := by kernel_rfl
 have e1 : decide ((x : Int) < 32) = decide (x < 32) := dIn x 32
 have e2 : decide ((126 : Int) < (x : Int)) = decide (126 < x) := dIn 126 x
 rw [this, e1, e2]
 cases decide (x < 32) <;> rfl
theorem p112 (x : Nat) : (ev E0).call 112 [LV.int .i32 (x : Int)] [] = some (.ret (LV.bool (decide (x < 48) || decide (57 < x))) []) := by
 refine ev_call ?_
 have : callStep E0 (ev E0) 112 [LV.int .i32 (x : Int)] [] = cond (decide ((x : Int) < 48)) (some (.ret (LV.bool true) [])) (some (.ret (LV.bool (decide ((57 : Int) < (x : Int)))) [])) := by kernel_rfl
 have e1 : decide ((x : Int) < 48) = decide (x < 48) := dIn x 48
 have e2 : decide ((57 : Int) < (x : Int)) = decide (57 < x) := dIn 57 x
 rw [this, e1, e2]
 cases decide (x < 48) <;> rfl
theorem p44 (x : Nat) : (ev E0).call 44 [LV.int .i32 (x : Int)] [] = some (.ret (LV.bool (decide (x < 48) || decide (57 < x))) []) := by
 refine ev_call ?_
 have : callStep E0 (ev E0) 44 [LV.int .i32 (x : Int)] [] = cond (decide ((x : Int) < 48)) (some (.ret (LV.bool true) [])) (some (.ret (LV.bool (decide ((57 : Int) < (x : Int)))) [])) := by kernel_rfl
 have e1 : decide ((x : Int) < 48) = decide (x < 48) := dIn x 48
 have e2 : decide ((57 : Int) < (x : Int)) = decide (57 < x) := dIn 57 x
 rw [this, e1, e2]
 cases decide (x < 48) <;> rfl
def letB (b : Int) : Bool := (decide ((97 : Int) ≤ b) && decide (b ≤ 122)) || (decide ((65 : Int) ≤ b) && decide (b ≤ 90))
theorem p90 {b : Int} : (ev E0).call 90 [LV.int .u8 b] [] = some (.ret (LV.bool (letB b)) []) := by
 refine ev_call ?_
 have : callStep E0 (ev E0) 90 [LV.int .u8 b] [] = cond (decide ((97 : Int) ≤ b)) (
   cond (decide (b ≤ (122 : Int))) (
   some (.ret (LV.bool true) [])) (
   cond (decide ((65 : Int) ≤ b)) (
   some (.ret (LV.bool (decide (b ≤ (90 : Int)))) [])) (
   some (.ret (LV.bool false) [])))) (
   cond (decide ((65 : Int) ≤ b)) (
   some (.ret (LV.bool (decide (b ≤ (90 : Int)))) [])) (
   some (.ret (LV.bool false) []))) := by kernel_rfl
 rw [this]
 unfold letB
 cases decide ((97 : Int) ≤ b) <;> cases decide (b ≤ 122) <;> cases decide ((65 : Int) ≤ b) <;> rfl
theorem p132 {b : Int} : (ev E0).call 132 [LV.int .u8 b] [] = some (.ret (LV.bool (decide ((48 : Int) ≤ b) && decide (b ≤ 57))) []) := by
 refine ev_call ?_
 have : callStep E0 (ev E0) 132 [LV.int .u8 b] [] = cond (decide ((48 : Int) ≤ b)) (some (.ret (LV.bool (decide (b ≤ (57 : Int)))) [])) (some (.ret (LV.bool false) [])) := by kernel_rfl
 rw [this]
 cases decide ((48 : Int) ≤ b) <;> rfl
def parB (b : Int) : Bool := letB b || (decide ((48 : Int) ≤ b) && decide (b ≤ 57)) || decide (b = 95)
theorem getB_b {b : Bool} : getBool (LV.bool b) = some b := rfl
theorem p93 {b : Int} : (ev E0).call 93 [LV.int .u8 b] [] = some (.ret (LV.bool (parB b)) []) := by
 refine ev_call ?_
 have : ∀ ρ : Rho, callStep E0 ρ 93 [LV.int .u8 b] [] = callK (ρ.call 90 [LV.int .u8 b] []) (fun v1 μ2 =>
   opt (getBool v1) fun b5 =>
   cond (b5) (
   some (.ret (LV.bool true) μ2)) (
   callK (ρ.call 132 [LV.int .u8 b] μ2) (fun v6 μ7 =>
   opt (getBool v6) fun b10 =>
   cond (b10) (
   some (.ret (LV.bool true) μ7)) (
   some (.ret (LV.bool (decide (b = (95 : Int)))) μ7))) (fun v9 μ8 =>
   guardB (below (List.length μ8) v9) (some (.panic v9 μ8))))) (fun v4 μ3 =>
   guardB (below (List.length μ3) v4) (some (.panic v4 μ3))) := by intro ρ; kernel_rfl
 rw [this, p90, callK_r, getB_b, opt_so]
 unfold parB
 cases letB b with
 | true => rfl
 | false =>
  rw [cond_false, p132, callK_r, getB_b, opt_so]
  cases (decide ((48 : Int) ≤ b) && decide (b ≤ 57)) <;> rfl
def nameP (x : Nat) : Bool := decide (126 < x) || !parB (IntKind.wrap .u8 (x : Int))
theorem p92 (x : Nat) : (ev E0).call 92 [LV.int .i32 (x : Int)] [] = some (.ret (LV.bool (nameP x)) []) := by
 refine ev_call ?_
 have : ∀ ρ : Rho, callStep E0 ρ 92 [LV.int .i32 (x : Int)] [] = cond (decide ((126 : Int) < (x : Int))) (
   some (.ret (LV.bool true) [])) (
   callK (ρ.call 93 [LV.int .u8 (IntKind.wrap .u8 (x : Int))] []) (fun v1 μ2 =>
   opt (getBool v1) fun b5 =>
   some (.ret (LV.bool (!b5)) μ2)) (fun v4 μ3 =>
   guardB (below (List.length μ3) v4) (some (.panic v4 μ3)))) := by intro ρ; kernel_rfl
 have e2 : decide ((126 : Int) < (x : Int)) = decide (126 < x) := dIn 126 x
 rw [this, p93, e2]
 unfold nameP
 cases decide (126 < x) <;> rfl
theorem ok_func {g : FuncId} {p : Nat → Bool} {q : UInt8 → Bool} (hr : ∀ x : Nat, (ev E0).call g [LV.int .i32 (x : Int)] [] = some (.ret (LV.bool (p x)) [])) (hg : ∀ args w, (callFunc g args).run Tryz.prog w = .ok (.enter g args) w)
  (h1 : ∀ b : UInt8, b.toNat < 128 → p b.toNat = q b) (h2 : ∀ x, 128 ≤ x → p x = true) (h3 : ∀ b : UInt8, 128 ≤ b.toNat → q b = true) {s : List UInt8} :
  Meets E.P W0 43 [LV.str s, LV.cv (.clo g [])] μ (.ret (LV.bool (s.any q)) μ) := by
 refine meets_prim (has_body Tryz.func43 rfl (by kernel_rfl)) fun G w cargs hs hv k1 k2 => ?_
 have hc : cargs = #[.string ⟨⟨s⟩⟩, .func (.func g) #[] #[]] := by
  have e0 := hv 0 _ rfl
  have e1 := hv 1 _ rfl
  simp only [LVR, VR] at e0 e1
  obtain ⟨vs, e1, e2⟩ := e1
  simp only [VRL] at e2
  have : vs = #[] := by
   apply Array.ext'
   rw [e2]
  subst this
  simp only [List.length_cons, List.length_nil] at hs
  apply Array.ext
  ·exact hs
  ·intro j hj1 hj2
   have : j = 0 ∨ j = 1 := by simp at hj2; omega
   rcases this with rfl | rfl
   ·rw [Array.getD_eq_getD_getElem?, Array.getElem?_eq_getElem hj1] at e0
    simpa using e0
   ·rw [Array.getD_eq_getD_getElem?, Array.getElem?_eq_getElem hj1] at e1
    simpa using e1
 rw [hc]
 refine (Tryz.strings_ContainsFunc_grows g #[] hg p ⟨⟨s⟩⟩ w (pred_meets hr)).mono fun e w' ⟨h4, h5⟩ => ⟨_, h4, h5, ?_, fun b h => by simp [Owns] at h⟩
 have := idx_any h1 h2 h3 s s.length 0 (by omega)
 rw [List.drop_zero] at this
 have e : Lib.idxFunc p true ⟨⟨s⟩⟩ = Lib.idxFuncFrom p true ⟨⟨s⟩⟩ s.length 0 := rfl
 rw [e, this]
 rfl
theorem name_low : ∀ i : Fin 128, nameP i.val = !((decide (97 ≤ i.val) && decide (i.val ≤ 122)) || (decide (65 ≤ i.val) && decide (i.val ≤ 90)) || (decide (48 ≤ i.val) && decide (i.val ≤ 57)) || decide (i.val = 95)) := by decide
theorem ok_containsFunc {args : List LV} {out : Out} (h : pContainsFunc runePreds args μ = some out) : Meets E.P W0 43 args μ out := by
 unfold pContainsFunc at h
 obtain ⟨q, hq, h⟩ := opt_inv h
 obtain ⟨r, hr, h⟩ := opt_inv h
 obtain ⟨u, hu, h⟩ := opt_inv h
 obtain ⟨s, hs, h⟩ := opt_inv h
 have hargs : args = [LV.str s, r.1] := by rw [uncons_inv hq, uncons_inv hr, isNilL_inv hu, getStr_inv hs]
 rw [hargs]
 split at h
 ·rename_i g hg
  rw [hg]
  obtain ⟨p, hp, h⟩ := opt_inv h
  injection h with h
  subst h
  unfold runePreds at hp
  split at hp
  ·injection hp with hp; subst hp
   exact ok_func p122 Tryz.call122 (fun b hb => rfl) (fun x hx => by simp; omega) (fun b hb => by simp; omega)
  ·injection hp with hp; subst hp
   exact ok_func p112 Tryz.call112 (fun b hb => rfl) (fun x hx => by simp; omega) (fun b hb => by simp; omega)
  ·injection hp with hp; subst hp
   exact ok_func p44 Tryz.call44 (fun b hb => rfl) (fun x hx => by simp; omega) (fun b hb => by simp; omega)
  ·injection hp with hp; subst hp
   refine ok_func p92 Tryz.call92 (fun b hb => name_low ⟨b.toNat, hb⟩) (fun x hx => ?_) (fun b hb => ?_)
   ·unfold nameP
    have : decide (126 < x) = true := by simp; omega
    rw [this]; rfl
   ·simp; omega
  ·cases hp
 ·cases h
end
end Go.Abs

set_option linter.unusedVariables false
set_option linter.unusedSimpArgs false
set_option maxRecDepth 100000
namespace Go.Proofs.YtfcjjankfjaapaaGreatDoor.Glue
open Go Go.Proofs Go.Abs Go.Shelf Go.Lib Go.ChangeShapes Go.WideShapes Go.ChangeAt Go.RowKit
def laidAll : List (String × DataW Unit) := [("math/bits.deBruijn32tab", Rows.laid_math_bits_deBruijn32tab), ("math/bits.deBruijn64tab", Rows.laid_math_bits_deBruijn64tab), ("internal/strconv.uint64pow10", Rows.laid_internal_strconv_uint64pow10), ("unicode/utf8.acceptRanges", Rows.laid_unicode_utf8_acceptRanges), ("strconv.ErrRange", Rows.laid_strconv_ErrRange), ("strconv.ErrSyntax", Rows.laid_strconv_ErrSyntax), ("unicode.CaseRanges", Rows.laid_unicode_CaseRanges), ("unicode/utf8.first", Rows.laid_unicode_utf8_first)]
def caseRen : Go.Shelf.Ren := ⟨fun | 274 => 198 | n => n, fun | 21 => 21 | 162 => 195 | 160 => 212 | 3 => 3 | 4 => 4 | 46 => 154 | 0 => 0 | 208 => 219 | 51 => 196 | 206 => 217 | n => n, fun | 13 => 3 | n => n⟩
theorem lays274 : Go.Proofs.Lays.n274 Tryz.prog caseRen := {
 mixed := by kernel_rfl
 f274 := Tryz.func198.trans (congrArg some (by kernel_rfl))
 t0 := Tryz.underlying0
 a0 := Tryz.isAgg0
 z0 := Tryz.sizeOf0
 v0 := Tryz.zeroValue0
 t3 := Tryz.underlying3
 a3 := Tryz.isAgg3
 z3 := Tryz.sizeOf3
 v3 := Tryz.zeroValue3
 t4 := Tryz.underlying4
 a4 := Tryz.isAgg4
 z4 := Tryz.sizeOf4
 v4 := Tryz.zeroValue4
 t21 := Tryz.underlying21
 a21 := Tryz.isAgg21
 z21 := Tryz.sizeOf21
 v21 := Tryz.zeroValue21
 t46 := Tryz.underlying154
 a46 := Tryz.isAgg154
 z46 := Tryz.sizeOf154
 v46 := Tryz.zeroValue154
 t51 := Tryz.underlying196
 a51 := Tryz.isAgg196
 z51 := Tryz.sizeOf196
 v51 := Tryz.zeroValue196
 t160 := Tryz.underlying212
 a160 := Tryz.isAgg212
 z160 := Tryz.sizeOf212
 v160 := Tryz.zeroValue212
 t162 := Tryz.underlying195
 a162 := Tryz.isAgg195
 z162 := Tryz.sizeOf195
 v162 := Tryz.zeroValue195
 t208 := Tryz.underlying219
 a208 := Tryz.isAgg219
 z208 := Tryz.sizeOf219
 v208 := Tryz.zeroValue219 }
def u8Ren : Go.Shelf.Ren := ⟨fun n => n, fun | 5 => 5 | 119 => 199 | 139 => 202 | 138 => 201 | n => n, fun | 3 => 4 | 4 => 5 | n => n⟩
theorem u8Types : U8Types Tryz.prog u8Ren := ⟨Tryz.underlying5, Tryz.underlying199, Tryz.underlying201, Tryz.underlying202⟩
theorem star : "*" ++ "errors.errorString" = "*errors.errorString" := by decide
theorem row188 (u : TypeId) (h : Tryz.prog.typeName? 3 u = some "*errors.errorString") : u = 188 :=
 typeName_ptr_named (nm := "errors.errorString") (by rw [star]; kernel_rfl) (by kernel_rfl) (by decide) u (by rw [star]; exact h)
theorem base_of_laid {W : World} (hL : laidMet Tryz.prog laidAll W) (hS : W.ShapedOpen Tryz.prog) : Base W := by
 obtain ⟨a0, t0, hv0, hc0, ht0, _⟩ := laid_sentinel (g := 1) hL.tail.tail.tail.tail (by kernel_rfl) (by kernel_rfl) Tryz.underlying76 row188 Tryz.underlying188 Tryz.underlying190 rfl rfl Tryz.underlying9 (by kernel_rfl) (by kernel_rfl)
 obtain ⟨a1, t1, hv1, hc1, ht1, _⟩ := laid_sentinel (g := 0) hL.tail.tail.tail.tail.tail (by kernel_rfl) (by kernel_rfl) Tryz.underlying76 row188 Tryz.underlying188 Tryz.underlying190 rfl rfl Tryz.underlying9 (by kernel_rfl) (by kernel_rfl)
 have r4 := Lib.laidMet.reads hL (.tail _ (.tail _ (.tail _ (.head _))))
 have r7 := Lib.laidMet.reads hL (.tail _ (.tail _ (.tail _ (.tail _ (.tail _ (.tail _ (.head _)))))))
 have r8 := Lib.laidMet.reads hL (.tail _ (.tail _ (.tail _ (.tail _ (.tail _ (.tail _ (.tail _ (.head _))))))))
 have r7' : VarReads Tryz.prog W "unicode.CaseRanges" caseData := by rw [← Pinned.caseRanges_eq]; exact r7
 have r8' : VarReads Tryz.prog W "unicode/utf8.first" firstData := by rw [← Pinned.utf8First_eq]; exact r8
 refine ⟨?_, ?_, ?_, ?_, ⟨_, _, hv1⟩, ⟨_, _, hv0⟩⟩
 ·exact cell_of_shapedOpen_int (zero := #[.int .i64 0]) (t := 3) hS (of_decide_eq_true (by kernel_rfl)) (by kernel_rfl) rfl (by kernel_rfl) (by kernel_rfl) Tryz.underlying3
 ·exact caseVar_of_reads lays274 Tryz.underlying217 ⟨by kernel_rfl, by kernel_rfl, by kernel_rfl, by kernel_rfl, by kernel_rfl, by kernel_rfl⟩ r7'
 ·exact utf8Tabs_of_readsT u8Types ⟨by kernel_rfl, by kernel_rfl, by kernel_rfl, by kernel_rfl, by kernel_rfl, by kernel_rfl, by kernel_rfl⟩ r8' r4
 ·exact Lib.tabIs_of_head (g := 6) (t := 204) (e := 165) (n := 20) (by kernel_rfl) (by kernel_rfl) Tryz.underlying204 Tryz.underlying165 (by kernel_rfl) (by kernel_rfl) hL.tail.tail
end Go.Proofs.YtfcjjankfjaapaaGreatDoor.Glue

set_option linter.unusedVariables false
set_option linter.unusedSimpArgs false
set_option maxRecDepth 1000000
namespace Go.Proofs.YtfcjjankfjaapaaGreatDoor.Glue
open Go Go.Proofs Go.Shelf Go.Lib Go.Great Go.ChangeShapes Go.WideShapes Go.ChangeAt Go.RowKit
def intsOf {H : Type} : DataW H → List Value
 | .agg l => l.flatMap fun | .lit (.int k z) => [Value.int k z] | .agg [.lit (.int k z), .lit (.int k' z')] => [Value.int k z, Value.int k' z'] | _ => []
 | _ => []
def textOf (l : List UInt8) : Value := .string ⟨l.toArray⟩
noncomputable def laidWorld (os : Os) : World :=
 let N := (World.settled Tryz.prog os).heap.size
 let w0 := World.holding Tryz.prog os ⟨#[.cells (caseT.flatMap cells5).toArray 219,
  .cells #[textOf [118, 97, 108, 117, 101, 32, 111, 117, 116, 32, 111, 102, 32, 114, 97, 110, 103, 101]] 190,
  .cells #[textOf [105, 110, 118, 97, 108, 105, 100, 32, 115, 121, 110, 116, 97, 120]] 190], #[], []⟩
 let put (h : Array Obj) (g : Nat) (cs : Array Value) : Array Obj := h.modify g fun
  | .cells _ t frozen => .cells cs t frozen
  | o => o
 let h1 := put w0.heap 0 #[.iface 188 (.pointer (some ⟨N + 2, 0, none⟩))]
 let h2 := put h1 1 #[.iface 188 (.pointer (some ⟨N + 1, 0, none⟩))]
 let h3 := put h2 3 #[.slice (some ⟨N, 0, none⟩) caseT.length caseT.length]
 let h4 := put h3 4 (Lib.firstTab.map fun z => Value.int .u8 z).toArray
 let h5 := put h4 5 (intsOf (H := Unit) Rows.laid_unicode_utf8_acceptRanges).toArray
 let h6 := put h5 6 (intsOf (H := Unit) Rows.laid_internal_strconv_uint64pow10).toArray
 let h7 := put h6 7 (intsOf (H := Unit) Rows.laid_math_bits_deBruijn32tab).toArray
 let h8 := put h7 8 (intsOf (H := Unit) Rows.laid_math_bits_deBruijn64tab).toArray
 { w0 with heap := h8 }
noncomputable abbrev N0 : Nat := (World.settled Tryz.prog default).heap.size
theorem cty : CTypes Tryz.prog 195 219 217 196 21 := ⟨by kernel_rfl, by kernel_rfl, by kernel_rfl, by kernel_rfl, by kernel_rfl, by kernel_rfl, by kernel_rfl, by kernel_rfl, by kernel_rfl⟩
theorem piece0 (os : Os) (args : Array Value) : LaidIn Tryz.prog ((laidWorld os).forCall (fun _ _ => 0) ⟨#[], args, []⟩).memory (laidAll.take 6) [7, 8, 6, 5, 1, N0 + 1, 0, N0 + 2] :=
 LaidIn.of_run [7, 8, 6, 5, 1, N0 + 1, 0, N0 + 2] 8 (by kernel_rfl) (by kernel_rfl) (by kernel_rfl) (by kernel_rfl)
theorem piece1 (os : Os) (args : Array Value) : LaidIn Tryz.prog ((laidWorld os).forCall (fun _ _ => 0) ⟨#[], args, []⟩).memory [("unicode.CaseRanges", Rows.laid_unicode_CaseRanges)] [3, N0] := by
 have e : Rows.laid_unicode_CaseRanges = .slice (caseT.map rowData) [] := Pinned.caseRanges_eq
 rw [e]
 exact laidIn_case cty (g := 3) (B := N0) (tg := 195) (tb := 219) caseT (by kernel_rfl) (by kernel_rfl) (Nat.le_of_ble_eq_true (by kernel_rfl)) (by kernel_rfl) (by kernel_rfl) (by kernel_rfl) (Nat.ne_of_beq_eq_false (by kernel_rfl))
theorem piece2 (os : Os) (args : Array Value) : LaidIn Tryz.prog ((laidWorld os).forCall (fun _ _ => 0) ⟨#[], args, []⟩).memory [("unicode/utf8.first", Rows.laid_unicode_utf8_first)] [4] :=
 LaidIn.of_run [4] 8 (by kernel_rfl) (by kernel_rfl) (by kernel_rfl) (by kernel_rfl)
theorem laid_met (os : Os) (args : Array Value) : laidMet Tryz.prog laidAll ((laidWorld os).forCall (fun _ _ => 0) ⟨#[], args, []⟩).memory :=
 ((((piece0 os args).append (piece1 os args) (by kernel_rfl)).append (piece2 os args) (by kernel_rfl))).met
theorem own : ownKnob Tryz.prog.godebug = none := by kernel_rfl
end Go.Proofs.YtfcjjankfjaapaaGreatDoor.Glue

set_option linter.unusedVariables false
set_option linter.unusedSimpArgs false
namespace Go.Abs.Ga
open Go Go.ChangeShapes Go.WideShapes Go.WideElems Go.RowKit Go.ChangeAt Go.Deep
inductive Sh where
 | int (k : IntKind)
 | bool
 | str
 | sl (st : Bool) (l : List Sh)
mutual
def Is : Sh → CV → Prop
 | .int k, c => ∃ n, c = .v (.int k n) ∧ (Lit.int k n).wf = true
 | .bool, c => ∃ b, c = .v (.bool b)
 | .str, c => ∃ s : List UInt8, c = CV.str s ∧ s.length ≤ maxLen
 | .sl st l, c => ∃ xs : List CV, c = .sl xs ∧ xs.length ≤ maxLen ∧ ∀ x ∈ xs, if st then ∃ ys, x = .agg ys ∧ IsL l ys else IsL l [x]
def IsL : List Sh → List CV → Prop
 | [], ys => ys = []
 | s :: l, ys => ∃ y r, ys = y :: r ∧ Is s y ∧ IsL l r
end
theorem IsL_len : ∀ {l : List Sh} {ys : List CV}, IsL l ys → ys.length = l.length
 | [], ys, h => by simp only [IsL] at h; rw [h]; rfl
 | s :: l, ys, h => by
  simp only [IsL] at h
  obtain ⟨y, r, rfl, _, h2⟩ := h
  simp [IsL_len h2]
theorem IsL_app : ∀ {l m : List Sh} {xs ys : List CV}, IsL l xs → IsL m ys → IsL (l ++ m) (xs ++ ys)
 | [], m, xs, ys, h1, h2 => by simp only [IsL] at h1; rw [h1]; exact h2
 | s :: l, m, xs, ys, h1, h2 => by
  simp only [IsL] at h1
  obtain ⟨y, r, rfl, a, b⟩ := h1
  exact ⟨y, r ++ ys, rfl, a, IsL_app b h2⟩
theorem Is_plain {s : Sh} {c : CV} (h : Is s c) : c.cells.length = 1 ∧ ∀ ys, c ≠ .agg ys := by
 cases s with
 | int k => simp only [Is] at h; obtain ⟨n, rfl, _⟩ := h; exact ⟨rfl, fun ys e => by cases e⟩
 | bool => simp only [Is] at h; obtain ⟨n, rfl⟩ := h; exact ⟨rfl, fun ys e => by cases e⟩
 | str => simp only [Is] at h; obtain ⟨n, rfl, _⟩ := h; exact ⟨rfl, fun ys e => by cases e⟩
 | sl st l => simp only [Is] at h; obtain ⟨n, rfl, _⟩ := h; exact ⟨rfl, fun ys e => by cases e⟩
def fieldsOf (P : Program) (f : TypeId → Option (List Sh)) : Nat → List Field → Option (List Sh)
 | _, [] => some []
 | off, x :: r => match f x.type with
  | some l => if x.offset = off ∧ P.cellsOf x.type = l.length then (match fieldsOf P f (off + l.length) r with | some m => some (l ++ m) | none => none) else none
  | none => none
def shapeOf (P : Program) : Nat → TypeId → Option (List Sh)
 | 0, _ => none
 | n + 1, t => match P.underlying t with
  | some .bool => some [.bool]
  | some (.int k) => some [.int k]
  | some .string => some [.str]
  | some (.slice e) => (match shapeOf P n e with
   | some [] => none
   | some (x :: l) => if P.cellsOf e = (x :: l).length then (match P.underlying e with
    | some (.struct _) => some [.sl true (x :: l)]
    | _ => if l.length = 0 then some [.sl false (x :: l)] else none) else none
   | none => none)
  | some (.struct fs) => (match fieldsOf P (shapeOf P n) 0 fs.toList with
   | some l => if P.cellsOf t = l.length then some l else none
   | none => none)
  | _ => none
section
variable {H : Type} {enc : TypeId × Value → H} {P : Program} {w : World} {base : Nat} {spare : Nat → Bool} {held : Bool}
theorem VRL_app {G : Gh} : ∀ {xs ys : List CV} {cs ds : List Value}, VRL G w xs cs → VRL G w ys ds → VRL G w (xs ++ ys) (cs ++ ds)
 | [], ys, cs, ds, h1, h2 => by simp only [VRL] at h1; rw [h1]; exact h2
 | x :: xs, ys, cs, ds, h1, h2 => by
  simp only [VRL] at h1
  obtain ⟨v, r, rfl, a, b⟩ := h1
  exact ⟨v, r ++ ds, rfl, a, VRL_app b h2⟩
theorem top_O {b : Nat} {off : Nat} {v : Value} (h : w.cell? ⟨b, off, none⟩ = some v) : off < (Gh.top w).O b := by
 unfold World.cell? at h
 simp only [Gh.top]
 split at h
 ·rename_i c e fz hb
  rw [hb]
  simp only
  by_cases hl : off < c.size
  ·exact hl
  ·have h' : c[off]? = some v := by simpa using h
   rw [Array.getElem?_eq_none (by omega)] at h'
   cases h'
 ·cases h
theorem CL_of : ∀ {xs : List CV} {cs : List Value} {b off : Nat}, VRL (Gh.top w) w xs cs → (∀ i, i < cs.length → w.cell? ⟨b, off + i, none⟩ = cs[i]?) → CL (Gh.top w) w b off xs
 | [], cs, b, off, _, _ => by simp only [CL]
 | x :: xs, cs, b, off, h1, h2 => by
  simp only [VRL] at h1
  obtain ⟨v, r, rfl, a, c⟩ := h1
  have h0 := h2 0 (by simp)
  simp only [Nat.add_zero, List.getElem?_cons_zero] at h0
  simp only [CL]
  refine ⟨⟨v, h0, top_O h0, a⟩, CL_of c fun i hi => ?_⟩
  have := h2 (i + 1) (by simp; omega)
  simpa [Nat.add_assoc, Nat.add_comm 1 i] using this
theorem cells_at : ∀ {n : Nat} {a : Addr} {cs : List Value}, w.cells? base a n = some cs → cs.length = n ∧ ∀ i, i < n → w.cell? (a.add i) = cs[i]? := by
 intro n a cs h
 obtain ⟨_, h1, h2⟩ := World.cells?_some h
 exact ⟨h1, h2⟩
theorem add_two (a : Addr) (i j : Nat) : (a.add i).add j = a.add (i + j) := by
 unfold Addr.add
 by_cases hi : i = 0
 ·subst hi
  by_cases hj : j = 0
  ·subst hj; simp
  ·simp [hj]
 ·by_cases hj : j = 0
  ·subst hj; simp [hi]
  ·have : i + j ≠ 0 := by omega
   simp only [if_neg hi, if_neg hj, if_neg this, Nat.add_assoc]
theorem add_lit (b o i : Nat) : (⟨b, o, none⟩ : Addr).add i = ⟨b, o + i, none⟩ := by
 unfold Addr.add
 split
 ·rename_i h; subst h; rfl
 ·rfl
theorem spot_none {a : Addr} {v : Value} (h : w.cell? a = some v) : a.spot = none := by
 unfold World.cell? at h
 split at h
 ·split at h
  ·cases h
  ·rename_i hs
   cases hq : a.spot with
   | none => rfl
   | some k => exact absurd (by rw [hq]; rfl) hs
 ·cases h
def Opens (enc : TypeId × Value → H) (P : Program) (w : World) (base : Nat) (spare : Nat → Bool) (held : Bool) (f : TypeId → Option (List Sh)) : Prop :=
 ∀ (fuel : Nat) (t : TypeId) (cs : List Value) (x : DataW H × List MemPlace) (l : List Sh), DataW.trod enc P w base spare held fuel t cs = some x → f t = some l → ∃ xs, IsL l xs ∧ VRL (Gh.top w) w xs cs
theorem VRL_len {G : Gh} : ∀ {xs : List CV} {cs : List Value}, VRL G w xs cs → xs.length = cs.length
 | [], cs, h => by simp only [VRL] at h; rw [h]; rfl
 | x :: xs, cs, h => by
  simp only [VRL] at h
  obtain ⟨v, r, rfl, _, b⟩ := h
  simp [VRL_len b]
theorem open_fields {f : TypeId → Option (List Sh)} (hf : Opens enc P w base spare held f) {fuel : Nat} : ∀ (fs : List Field) (off : Nat) (cs : List Value) (l : List Sh), fieldsOf P f off fs = some l → cs.length = off + l.length →
  (∀ x ∈ fs, ∃ y, DataW.trod enc P w base spare held fuel x.type ((cs.drop x.offset).take (P.cellsOf x.type)) = some y) → ∃ xs, IsL l xs ∧ VRL (Gh.top w) w xs (cs.drop off)
 | [], off, cs, l, h, hl, _ => by
  simp only [fieldsOf] at h
  injection h with h
  subst h
  refine ⟨[], rfl, ?_⟩
  rw [List.drop_eq_nil_of_le (by simp at hl; omega)]
  rfl
 | x :: r, off, cs, l, h, hl, ha => by
  simp only [fieldsOf] at h
  split at h
  ·rename_i l1 h1
   split at h
   ·rename_i hc
    split at h
    ·rename_i m h2
     injection h with h
     subst h
     obtain ⟨y, hy⟩ := ha x (by simp)
     obtain ⟨xs, a1, a2⟩ := hf fuel x.type _ y l1 hy h1
     obtain ⟨ys, b1, b2⟩ := open_fields hf r (off + l1.length) cs m h2 (by rw [hl, List.length_append]; omega) fun z hz => ha z (List.mem_cons_of_mem _ hz)
     refine ⟨xs ++ ys, IsL_app a1 b1, ?_⟩
     rw [hc.1, hc.2] at a2
     have : cs.drop off = (cs.drop off).take l1.length ++ cs.drop (off + l1.length) := by
      rw [← List.drop_drop, List.take_append_drop]
     rw [this]
     exact VRL_app a2 b2
    ·cases h
   ·cases h
  ·cases h
theorem EL_of {b s : Nat} {st : Bool} {l : List Sh} : ∀ (xs : List CV) (off : Nat), (∀ x ∈ xs, if st then ∃ ys, x = .agg ys ∧ IsL l ys else IsL l [x]) →
  (∀ j x, xs[j]? = some x → ∃ cs, VRL (Gh.top w) w x.cells cs ∧ cs.length = s ∧ ∀ i, i < s → w.cell? ⟨b, off + j * s + i, none⟩ = cs[i]?) → (st = false → s = 1) → EL (Gh.top w) w b s off xs
 | [], off, _, _, _ => by simp only [EL]
 | x :: r, off, h, hc, hs => by
  obtain ⟨cs, c1, c2, c3⟩ := hc 0 x rfl
  have hr := EL_of (b := b) (s := s) (st := st) (l := l) r (off + s) (fun y hy => h y (List.mem_cons_of_mem _ hy)) (fun j y hy => by
   obtain ⟨ds, d1, d2, d3⟩ := hc (j + 1) y (by simpa using hy)
   refine ⟨ds, d1, d2, fun i hi => ?_⟩
   have := d3 i hi
   rw [Nat.add_mul, Nat.one_mul] at this
   rw [← this]
   congr 2
   omega) hs
  have h0 := h x (by simp)
  simp only [Nat.zero_mul, Nat.add_zero] at c3
  cases st with
  | true =>
   simp only [if_true] at h0
   obtain ⟨ys, rfl, _⟩ := h0
   simp only [EL]
   refine ⟨CL_of (cs := cs) c1 (fun i hi => c3 i (by omega)), hr⟩
  | false =>
   simp only [Bool.false_eq_true, if_false] at h0
   have hp : ∀ ys, x ≠ .agg ys := by
    match l, h0 with
    | s :: l', h0 =>
     simp only [IsL] at h0
     obtain ⟨y, r', e, h1, _⟩ := h0
     injection e with e _
     subst e
     exact (Is_plain h1).2
    | [], h0 => simp only [IsL] at h0; cases h0
   have hx : x.cells = [x] := by cases x <;> first | rfl | exact absurd rfl (hp _)
   rw [hx] at c1
   simp only [VRL] at c1
   obtain ⟨v, r', rfl, c1, rfl⟩ := c1
   have h1 := c3 0 (by rw [hs rfl]; omega)
   simp only [Nat.add_zero, List.getElem?_cons_zero] at h1
   cases x <;> first | exact absurd rfl (hp _) | (simp only [EL]; exact ⟨⟨v, h1, top_O h1, c1⟩, hr⟩)
theorem open_shape : ∀ n, Opens enc P w base spare held (shapeOf P n) := by
 intro n
 induction n with
 | zero => intro fuel t cs x l _ h; simp [shapeOf] at h
 | succ n ih =>
  intro fuel t cs x l ht h
  unfold shapeOf at h
  split at h
  ·rename_i hu
   injection h with h; subst h
   obtain ⟨b, rfl, _⟩ := DataW.trod_bool hu ht
   exact ⟨[.v (.bool b)], ⟨_, _, rfl, ⟨b, rfl⟩, rfl⟩, ⟨_, _, rfl, rfl, rfl⟩⟩
  ·rename_i k hu
   injection h with h; subst h
   obtain ⟨m, rfl, _, hw⟩ := DataW.trod_int hu ht
   exact ⟨[.v (.int k m)], ⟨_, _, rfl, ⟨m, rfl, hw⟩, rfl⟩, ⟨_, _, rfl, rfl, rfl⟩⟩
  ·rename_i hu
   injection h with h; subst h
   obtain ⟨s, rfl, _, hs⟩ := DataW.trod_string hu ht
   refine ⟨[CV.str s.data.toList], ⟨_, _, rfl, ⟨s.data.toList, rfl, hs⟩, rfl⟩, ⟨_, _, rfl, ?_, rfl⟩⟩
   cases s
   rfl
  ·rename_i e hu
   have key : ∀ (st : Bool) (sh : List Sh), l = [.sl st sh] → shapeOf P n e = some sh → P.cellsOf e = sh.length → sh ≠ [] → (st = false → sh.length = 1) → (st = true → ∃ fs, P.underlying e = some (.struct fs)) → ∃ xs, IsL l xs ∧ VRL (Gh.top w) w xs cs := by
    intro st sh hl h1 h2 h3 h4 _
    subst hl
    rcases open_slice hu ht with ⟨rfl, _⟩ | ⟨a, len, cap, m, k, D, Pl, rfl, hb, hle, hm, hmm, _, hx⟩
    ·exact ⟨[.sl []], ⟨_, _, rfl, ⟨[], rfl, by simp, fun x hx => absurd hx (by simp)⟩, rfl⟩, ⟨_, _, rfl, ⟨none, 0, 0, rfl, rfl, Nat.le_refl _, Or.inl rfl⟩, rfl⟩⟩
    ·have hlm : len ≤ m := by rw [hmm]; split <;> omega
     have hone : ∀ i, i < len → ∃ x : CV, (if st then ∃ ys, x = .agg ys ∧ IsL sh ys else IsL sh [x]) ∧ ∃ ds, VRL (Gh.top w) w x.cells ds ∧ ds.length = sh.length ∧ ∀ j, j < sh.length → w.cell? (a.add (i * sh.length + j)) = ds[j]? := by
      intro i hi
      obtain ⟨cs', c1, c2⟩ := hx i (by omega)
      obtain ⟨xs, x1, x2⟩ := ih k e cs' _ sh c2 h1
      obtain ⟨d1, d2⟩ := cells_at c1
      rw [h2] at d1 d2
      have d2' : ∀ j, j < sh.length → w.cell? (a.add (i * sh.length + j)) = cs'[j]? := fun j hj => by
       rw [← d2 j hj, add_two]
      cases st with
      | true => exact ⟨.agg xs, ⟨xs, rfl, x1⟩, cs', x2, d1, d2'⟩
      | false =>
       have hl1 := IsL_len x1
       rw [h4 rfl] at hl1
       obtain ⟨y, rfl⟩ := List.length_eq_one_iff.1 hl1
       refine ⟨y, x1, cs', ?_, d1, d2'⟩
       have hp : ∀ ys, y ≠ .agg ys := by
        match sh, x1 with
        | s :: l', x1 =>
         simp only [IsL] at x1
         obtain ⟨y', r', e', z1, _⟩ := x1
         injection e' with e' _
         subst e'
         exact (Is_plain z1).2
        | [], x1 => simp only [IsL] at x1; cases x1
       have hy : y.cells = [y] := by cases y <;> first | rfl | exact absurd rfl (hp _)
       rw [hy]
       exact x2
     obtain ⟨X, hX⟩ := choose_lt hone
     have hget : ∀ j x, ((List.range len).map X)[j]? = some x → j < len ∧ x = X j := by
      intro j x hj
      rw [List.getElem?_map] at hj
      cases hq : (List.range len)[j]? with
      | none => rw [hq] at hj; cases hj
      | some z =>
       rw [hq] at hj
       obtain ⟨h5, h6⟩ := List.getElem?_eq_some_iff.1 hq
       simp at h5 h6 hj
       subst h6
       exact ⟨h5, hj.symm⟩
     refine ⟨[.sl ((List.range len).map X)], ⟨_, _, rfl, ⟨_, rfl, by simp; omega, fun x hxm => ?_⟩, rfl⟩, ⟨_, _, rfl, ⟨some a, len, cap, rfl, by simp, hle, ?_⟩, rfl⟩⟩
     ·obtain ⟨j, hj⟩ := List.getElem?_of_mem hxm
      obtain ⟨h5, rfl⟩ := hget j x hj
      exact (hX j h5).1
     ·by_cases h0 : len = 0
      ·exact Or.inl h0
      ·right
       have hpos : 0 < sh.length := List.length_pos_iff.2 h3
       have hsp : a.spot = none := by
        obtain ⟨_, ds, e1, e2, e3⟩ := hX 0 (by omega)
        have := e3 0 hpos
        rw [List.getElem?_eq_getElem (by omega)] at this
        exact spot_none (by simpa [Addr.add] using this)
       have ha : a = ⟨a.block, a.off, none⟩ := by cases a; simp at hsp; simp [hsp]
       refine ⟨a.block, a.off, sh.length, by rw [← ha], fun x hxm => ?_, ?_⟩
       ·obtain ⟨j, hj⟩ := List.getElem?_of_mem hxm
        obtain ⟨h5, rfl⟩ := hget j x hj
        obtain ⟨_, ds, e1, e2, _⟩ := hX j h5
        rw [VRL_len e1, e2]
       ·refine EL_of (st := st) (l := sh) _ _ (fun x hxm => ?_) (fun j x hj => ?_) (fun e => h4 e)
        ·obtain ⟨j, hj⟩ := List.getElem?_of_mem hxm
         obtain ⟨h5, rfl⟩ := hget j x hj
         exact (hX j h5).1
        ·obtain ⟨h5, rfl⟩ := hget j x hj
         obtain ⟨_, ds, e1, e2, e3⟩ := hX j h5
         refine ⟨ds, e1, e2, fun i hi => ?_⟩
         rw [← e3 i hi, ha, add_lit, Nat.add_assoc]
   split at h
   ·cases h
   ·rename_i y l' h1
    split at h
    ·rename_i h2
     split at h
     ·rename_i fs h3
      injection h with h
      exact key true _ h.symm h1 h2 (by simp) (fun e => by cases e) (fun _ => ⟨fs, h3⟩)
     ·split at h
      ·rename_i h4
       injection h with h
       exact key false _ h.symm h1 h2 (by simp) (fun _ => by simp only [List.length_cons]; omega) (fun e => by cases e)
      ·cases h
    ·cases h
   ·cases h
  ·rename_i fs hu
   split at h
   ·rename_i l' h1
    split at h
    ·rename_i h2
     injection h with h
     subst h
     obtain ⟨xs, m, _, _, h3, h4, h5⟩ := DataW.trod_struct hu ht
     have := open_fields ih (fuel := m) fs.toList 0 cs l' h1 (by rw [h3, h2, Nat.zero_add]) fun f hf => by
      obtain ⟨i, hi⟩ := List.getElem?_of_mem hf
      have hi' : fs[i]? = some f := by rw [← Array.getElem?_toList]; exact hi
      have hlt : i < xs.length := by
       rw [h4]
       exact (Array.getElem?_eq_some_iff.1 hi').1
      refine ⟨xs[i], ?_⟩
      rw [h5 i f hi', List.getElem?_eq_getElem hlt]
     rw [List.drop_zero] at this
     exact this
    ·cases h
   ·cases h
  ·cases h
def isStruct (P : Program) (t : TypeId) : Bool := match P.underlying t with | some (.struct _) => true | _ => false
theorem open_arg {n : Nat} {t : TypeId} {v : Value} {l : List Sh} {d : DataW H} {ps : List MemPlace} {r : Reach} {b0 : Nat} (hl : shapeOf P n t = some l) (hval : Value.okWide P w r b0 t v) (hd : DataW.Trod enc P w base spare held t v d ps) :
  ∃ c, VR (Gh.top w) w c v ∧ (if isStruct P t = true then ∃ ys, c = .agg ys ∧ IsL l ys else IsL l [c]) := by
 obtain ⟨fuel, hf⟩ := hd
 obtain ⟨xs, h1, h2⟩ := open_shape n fuel t _ _ l hf hl
 by_cases hs : isStruct P t = true
 ·simp only [hs, if_true]
  obtain ⟨fs, hfs⟩ : ∃ fs, P.underlying t = some (.struct fs) := by
   unfold isStruct at hs
   split at hs
   ·rename_i fs h; exact ⟨fs, h⟩
   ·cases hs
  obtain ⟨cs, rfl, _⟩ := okWide_struct hfs hval
  exact ⟨.agg xs, ⟨cs, rfl, h2⟩, xs, rfl, h1⟩
 ·simp only [hs, if_false, Bool.false_eq_true]
  have hv : v.cells.toList = [v] := by
   cases n with
   | zero => simp [shapeOf] at hl
   | succ n =>
    unfold shapeOf at hl
    split at hl
    ·rename_i hu
     obtain ⟨_, rfl⟩ := okWide_bool hu hval
     rfl
    ·rename_i k hu
     obtain ⟨_, rfl⟩ := okWide_int hu hval
     rfl
    ·rename_i hu
     obtain ⟨_, rfl⟩ := okWide_string hu hval
     rfl
    ·rename_i e hu
     obtain ⟨_, _, _, rfl⟩ := okWide_slice hu hval
     rfl
    ·rename_i fs hu
     exact absurd (by unfold isStruct; rw [hu]) hs
    ·cases hl
  rw [hv] at h2
  have hlen := VRL_len h2
  obtain ⟨c, rfl⟩ := List.length_eq_one_iff.1 hlen
  simp only [VRL] at h2
  obtain ⟨v', r', e, h3, _⟩ := h2
  injection e with e _
  subst e
  exact ⟨c, h3, h1⟩
theorem same_kept {W W' : World} (h : Kept W W') {p : MemPlace} (hp : p.block < W.heap.size) : W.sameAt W' p := by
 cases p with
 | cell b o => exact World.cell?_of_block (w := W) (h.2.2.2 b hp)
 | map b => exact h.2.2.2 b hp
def rowedT (P : Program) (ts : List TypeId) : Bool := ts.all fun t => P.readableRec t && decide (t < P.types.size)
theorem args_stay (hl : laidOutB P = true) {W W' : World} (hk : Kept W W') {sp : Nat → Bool} : ∀ {ts : List TypeId} {vs : List Value} {ds : List (DataW H)} {ps : List MemPlace}, rowedT P ts = true →
  DataW.TrodAll enc P W 0 (fun _ => true) true ts vs ds ps → (∀ p ∈ ps, p.block < W.heap.size) → (∀ p ∈ ps, sp p.block = true) → DataW.TrodAll enc P W' 0 sp true ts vs ds ps
 | [], [], [], ps, _, h, _, _ => h
 | t :: ts, v :: vs, d :: ds, ps, hr, h, hlt, hsp => by
  simp only [DataW.TrodAll] at h ⊢
  obtain ⟨p, q, ⟨fuel, h1⟩, h2, rfl⟩ := h
  simp only [rowedT, List.all_cons, Bool.and_eq_true, decide_eq_true_eq] at hr
  refine ⟨p, q, ⟨fuel, DataW.trod_stays (kids_book hl hr.1.1) (book_sized hr.1.1) (fun h => by cases h) ⟨hr.1.2, book_self t⟩ h1 (fun x hx => same_kept hk (hlt x (List.mem_append_left _ hx))) (fun x hx => hsp x (List.mem_append_left _ hx))⟩, ?_, rfl⟩
  exact args_stay hl hk (by simpa [rowedT] using hr.2) h2 (fun x hx => hlt x (List.mem_append_right _ hx)) (fun x hx => hsp x (List.mem_append_right _ hx))
 | [], _ :: _, _, _, _, h, _, _ => h.elim
 | [], [], _ :: _, _, _, h, _, _ => h.elim
 | _ :: _, [], _, _, _, h, _, _ => h.elim
 | _ :: _, _ :: _, [], _, _, h, _, _ => h.elim
end
theorem post_true {H : Type} {enc : TypeId × Value → H} {P : Program} {f : Func} {s : ChangeSpec} {tb : TypeId} (hl : laidOutB P = true) (hr : rowedT P f.params.toList = true) (hb : P.underlying tb = some .bool) (hf : f.resultTypes = #[tb])
  (hvs : s.vars = []) {W W' : World} {args : Array Value} {ds gs : List (DataW H)} {before : List MemPlace}
  (hW : DataW.Whole enc P f.params.toList s.vars false W args.toList ds gs before) (hs1 : (s.fn H ds).results = [.lit (.bool true)]) (hs2 : (s.fn H ds).args = ds) (hs3 : (s.fn H ds).vars = []) (hk : Kept W W') :
  s.post enc P f false true false false W args (.bool true) W' := by
 have hW' := hW
 obtain ⟨p, q, hA, hV, rfl, _, _⟩ := hW
 have hlt := fun x hx => hW'.lt x hx
 rw [hvs] at hV
 obtain ⟨rfl, rfl⟩ := trodVars_none hV
 simp only [List.append_nil] at hW' hlt
 refine post_kept (pa := p) (pv := []) hW' ?_ ?_ ?_ (by simp) hk ?_
 ·intro b sp hd
  simp only [List.append_nil, hs1, hf]
  exact trodAll_cons_mk (shut_bool hb _) trodAll_mk0
 ·intro sp hsp
  simp only [List.append_nil, hs2]
  exact args_stay hl hk hr hA hlt hsp
 ·intro sp hsp
  simp only [List.append_nil, hs3, hvs]
  rfl
 ·exact ok_one hf rfl (okWide_bool_mk hb _)
end Go.Abs.Ga

set_option linter.unusedVariables false
set_option linter.unusedSimpArgs false
set_option maxRecDepth 100000
namespace Go.Abs
open Go Go.Proofs
section
variable {α β : Type}
theorem opt_s {a : α} {k : α → Option β} : opt (some a) k = k a := rfl
theorem gB_t {k : Option β} : guardB true k = k := rfl
theorem getInt_i {k : IntKind} {n : Int} : getInt k (LV.int k n) = some n := by simp [getInt]
theorem getStr_s {s : List UInt8} : getStr (LV.str s) = some s := rfl
theorem getBool_b {b : Bool} : getBool (LV.bool b) = some b := rfl
theorem getTup_t {l : List LV} : getTup (.ltup l) = some l := rfl
theorem uncons_c {α : Type} {a : α} {r : List α} : uncons (a :: r) = some (a, r) := rfl
theorem getSl_s {l : List CV} : getSl (.cv (.sl l)) = some l := rfl
theorem getSl_o {l : List CV} : getSl (.osl l) = some l := rfl
theorem getOsl_o {l : List CV} : getOsl (.osl l) = some l := rfl
theorem isNilL_n {α : Type} : isNilL ([] : List α) = some () := rfl
theorem callK_ret {v : LV} {μ : Mu} {k : LV → Mu → Option β} {p : CV → Mu → Option β} : callK (some (.ret v μ)) k p = k v μ := rfl
theorem callK_panic {v : CV} {μ : Mu} {k : LV → Mu → Option β} {p : CV → Mu → Option β} : callK (some (.panic v μ)) k p = p v μ := rfl
theorem wrap64 {x : Int} (h0 : -9223372036854775808 ≤ x) (h1 : x < 9223372036854775808) : IntKind.wrap .i64 x = x := by
 have e1 : (2 ^ IntKind.i64.bits : Int) = 18446744073709551616 := by decide
 have e2 : (2 ^ (IntKind.i64.bits - 1) : Int) = 9223372036854775808 := by decide
 have e3 : IntKind.i64.signed = true := rfl
 unfold IntKind.wrap
 simp only [e1, e2, e3, Bool.true_and, decide_eq_true_eq]
 split <;> omega
theorem wrap8 {x : Int} (h0 : 0 ≤ x) (h1 : x < 256) : IntKind.wrap .u8 x = x := by
 have e1 : (2 ^ IntKind.u8.bits : Int) = 256 := by decide
 have e3 : IntKind.u8.signed = false := rfl
 unfold IntKind.wrap
 simp only [e1, e3, Bool.false_and]
 simp only [Bool.false_eq_true, if_false]
 omega
theorem strAt_get {l : List UInt8} {i : Nat} : strAt l (i : Int) = l[i]? := by
 simp [strAt]
theorem slAt_get {l : List CV} {i : Nat} : slAt l (i : Int) = l[i]? := by
 simp [slAt]
theorem rd_str {a : LV} {r : List LV} : obRead E.P 9 (.cells (a :: r)) 0 = some (strip a) := by kernel_rfl
theorem rd_bool1 {a b : LV} {r : List LV} : obRead E.P 4 (.cells (a :: b :: r)) 1 = some (strip b) := by kernel_rfl
theorem strip_str {s : List UInt8} : strip (LV.str s) = LV.str s := rfl
theorem strip_bool {s : Bool} : strip (LV.bool s) = LV.bool s := rfl
theorem byteCells_bytesCV : ∀ (l : List UInt8), byteCells (bytesCV l) = some l
 | [] => rfl
 | b :: r => by
  have ih := byteCells_bytesCV r
  have e : bytesCV (b :: r) = CV.int .u8 (b.toNat : Int) :: bytesCV r := rfl
  rw [e]
  simp only [byteCells]
  rw [ih]
  have h := b.toNat_lt
  have h2 : (decide ((0 : Int) ≤ (b.toNat : Int)) && decide ((b.toNat : Int) < 256)) = true := by simp; omega
  rw [h2]
  simp [opt]
theorem bytesCV_app (a b : List UInt8) : bytesCV (a ++ b) = bytesCV a ++ bytesCV b := by simp [bytesCV]
theorem bytesCV_len (a : List UInt8) : (bytesCV a).length = a.length := by simp [bytesCV]
theorem allSz_bytesCV : ∀ (l : List UInt8), allSz 1 (bytesCV l) = true
 | [] => rfl
 | b :: r => by
  have e : bytesCV (b :: r) = CV.int .u8 (b.toNat : Int) :: bytesCV r := rfl
  rw [e]
  simp only [allSz]
  have : elemOK 1 (CV.int .u8 (b.toNat : Int)) = true := rfl
  rw [this]
  exact allSz_bytesCV r
theorem appOK_bytes {a b : List UInt8} (h : a.length + b.length ≤ 1099511627776) : appOK 1 (bytesCV a) (bytesCV b) = true := by
 unfold appOK
 rw [allSz_bytesCV, allSz_bytesCV, bytesCV_len, bytesCV_len]
 simp [small, h]
def strsCV (l : List (List UInt8)) : List CV := l.map CV.str
theorem getStr_cv {s : List UInt8} : getStr (LV.cv (CV.str s)) = some s := rfl
theorem small_le {n : Nat} (h : n ≤ 1099511627776) : small n = true := by simp [small, h]
theorem prim_call {f : FuncId} {g : Prim} {args : List LV} {μ : Mu} {out : Out} (h : E.prim f = some g) (hg : g args μ = some out) : (ev E).call f args μ = some out := by
 refine ev_call ?_
 unfold callStep
 rw [h]
 exact hg
theorem law91 {s : List UInt8} {μ : Mu} (h : s.length ≤ 1000000) : (ev E).call 91 [LV.str s] μ = some (.ret (LV.str (Lib.toUpperD s)) μ) := by
 refine prim_call (g := pToUpper) (by kernel_rfl) ?_
 have : short s = true := by simp [short, h]
 simp only [pToUpper, prim1, uncons_c, opt_s, isNilL_n, getStr_s, this, gB_t]
theorem law62 {s : List UInt8} {μ : Mu} {c : UInt8} (hc : c.toNat < 128) : (ev E).call 62 [LV.str s, LV.str [c]] μ = some (.ret (LV.str (Lib.trimLeftB s c)) μ) := by
 refine prim_call (g := pTrimLeft) (by kernel_rfl) ?_
 have : decide (c.toNat < 128) = true := by simp [hc]
 simp only [pTrimLeft, prim2, uncons_c, opt_s, isNilL_n, getStr_s, oneB, this, gB_t]
theorem law63 {s : List UInt8} {μ : Mu} {c : UInt8} (hc : c.toNat < 128) (h : s.length ≤ 1000000) : (ev E).call 63 [LV.str s, LV.str [c]] μ = some (.ret (LV.str (Lib.trimRightB s c)) μ) := by
 refine prim_call (g := pTrimRight) (by kernel_rfl) ?_
 have : (decide (c.toNat < 128) && short s) = true := by simp [hc, short, h]
 simp only [pTrimRight, prim2, uncons_c, opt_s, isNilL_n, getStr_s, oneB, this, gB_t]
theorem law45 {s : List UInt8} {μ : Mu} (h : s.length ≤ 1000000) : (ev E).call 45 [LV.str s] μ = some (.ret (atoiV 146 s) μ) := by
 refine prim_call (g := pAtoi 146) (by kernel_rfl) ?_
 have : short s = true := by simp [short, h]
 simp only [pAtoi, prim1, uncons_c, opt_s, isNilL_n, getStr_s, this, gB_t]
theorem law66 {n : Int} {μ : Mu} (h0 : -9223372036854775808 ≤ n) (h1 : n ≤ 9223372036854775807) : (ev E).call 66 [LV.int .i64 n] μ = some (.ret (LV.str (Lib.itoa n)) μ) := by
 refine prim_call (g := pItoa) (by kernel_rfl) ?_
 have : (decide (-9223372036854775808 ≤ n) && decide (n ≤ 9223372036854775807)) = true := by simp [h0, h1]
 simp only [pItoa, uncons_c, opt_s, isNilL_n, getInt_i, this, gB_t]
theorem law194 {s p : List UInt8} {μ : Mu} : (ev E).call 194 [LV.str s, LV.str p] μ = some (.ret (LV.str (Lib.trimPrefix s p)) μ) := by
 refine prim_call (g := pTrimPrefix) (by kernel_rfl) ?_
 simp only [pTrimPrefix, prim2, uncons_c, opt_s, isNilL_n, getStr_s]
theorem law195 {s p : List UInt8} {μ : Mu} : (ev E).call 195 [LV.str s, LV.str p] μ = some (.ret (LV.bool (Lib.hasPrefix s p)) μ) := by
 refine prim_call (g := pHasPrefix) (by kernel_rfl) ?_
 simp only [pHasPrefix, prim2, uncons_c, opt_s, isNilL_n, getStr_s]
theorem law145 {s p : List UInt8} {μ : Mu} (h : s.length ≤ 1000000) : (ev E).call 145 [LV.str s, LV.str p] μ = some (.ret (LV.int .i64 (Lib.index s p)) μ) := by
 refine prim_call (g := pIndex) (by kernel_rfl) ?_
 have : short s = true := by simp [short, h]
 simp only [pIndex, prim2, uncons_c, opt_s, isNilL_n, getStr_s, this, gB_t]
theorem law84 {s old new : List UInt8} {μ : Mu} (h : s.length ≤ 1000000) (h2 : new.length ≤ 1000000) (h1 : 1 ≤ old.length) : (ev E).call 84 [LV.str s, LV.str old, LV.str new] μ = some (.ret (LV.str (Lib.replaceAll s old new)) μ) := by
 refine prim_call (g := pReplaceAll) (by kernel_rfl) ?_
 have : (short s && short new && decide (1 ≤ old.length)) = true := by simp [short, h, h1, h2]
 simp only [pReplaceAll, prim3, uncons_c, opt_s, isNilL_n, getStr_s, this, gB_t]
end
end Go.Abs
