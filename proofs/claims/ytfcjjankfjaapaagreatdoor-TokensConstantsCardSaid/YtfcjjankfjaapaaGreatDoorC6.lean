/-
  The statement TokensConstantsCardSaid, proved; part 7 of 8 of its proof.
  What the scanner's small functions answer.
  Classes of characters.
  What characters are, and whether a text is in a list.
  strings.ToUpper on bytes below 128: byte by byte.
  Words between dots, exponents, numbers.
  Exponents, INTEGER constants, numbers.
  A number as a token.
  CHARACTER constants: what stands between quotes, plainly.
  The scanner's own list and the places that it keeps; CHARACTER constants.
  The arguments of this chapter's laws.
  Hollerith constants, operators, tokens.
  Operators, tokens.
  All tokens of a text.
  Digits and the numbers that they spell: plain facts.
  The scanner in free form, plainly; words between dots, as the reference looks for them.
  The reference's small functions.
-/
import Derived.Test.YtfcjjankfjaapaaGreatDoorC4
import Derived.Test.YtfcjjankfjaapaaGreatDoorC5
import Derived.Test.YtfcjjankfjaapaaGreatDoorC3
import Derived.Lib.MapLaws
import Derived.Lib.TrimAscii
import Derived.Lib.Case
import Derived.Lib.ItoaLen
import Derived.Lib.IndexMore
import Derived.Lib.IndexBytes
import Derived.Lib.Replace
import Derived.Lib.AtoiAllCases
set_option linter.all false
set_option linter.unusedSectionVars false
set_option linter.unusedVariables false
set_option linter.unusedSimpArgs false
set_option maxRecDepth 100000
namespace Go.Abs
open Go Go.Proofs
def Sc (μ : Mu) (l i : Nat) (s : List UInt8) (fx : Bool) (r : List LV) : Prop := muOb μ l i = .cells (LV.str s :: LV.bool fx :: r)
def blanks : List UInt8 → Nat
 | [] => 0
 | c :: r => if c = 32 then blanks r + 1 else 0
def skipN (fx : Bool) (s : List UInt8) (n : Nat) : Nat := if fx then n + blanks (s.drop n) else n
section
variable {μ : Mu} {l i : Nat} {s : List UInt8} {fx : Bool} {r : List LV}
theorem loop190 (h : Sc μ l i s fx r) (hs : s.length ≤ 1000000) : ∀ (k n : Nat), n + k = s.length → L190_1 (ev E) l i (n : Int) μ = some (XL190_1_0 (skipN fx s n : Nat) μ) := by
 intro k
 induction k with
 | zero =>
  intro n hk
  refine ev_loop ?_
  rw [nfL190_1, h]
  simp only [rd_bool1, strip_bool, opt_s, getBool_b, rd_str, strip_str, getStr_s]
  have : List.drop n s = [] := List.drop_eq_nil_of_le (by omega)
  have h1 : decide ((n : Int) < (s.length : Int)) = false := by simp; omega
  rw [h1]
  cases fx <;> simp [skipN, blanks, this]
 | succ k ih =>
  intro n hk
  refine ev_loop ?_
  rw [nfL190_1, h]
  simp only [rd_bool1, strip_bool, opt_s, getBool_b, rd_str, strip_str, getStr_s]
  have h1 : decide ((n : Int) < (s.length : Int)) = true := by simp; omega
  have hn : n < s.length := by omega
  rw [h1, strAt_get, List.getElem?_eq_getElem hn, opt_s]
  have hd : List.drop n s = s[n] :: List.drop (n + 1) s := List.drop_eq_getElem_cons hn
  have e : IntKind.wrap .i64 ((n : Int) + 1) = ((n + 1 : Nat) : Int) := by rw [wrap64 (by omega) (by omega)]; omega
  rw [e, ih (n + 1) (by omega)]
  cases fx
  ·simp [skipN]
  ·simp only [cond_true, skipN, if_true, hd, blanks]
   by_cases hc : s[n] = 32
   ·have : decide (((s[n]).toNat : Int) = 32) = true := by rw [hc]; decide
    rw [this]
    simp only [cond_true, hc, if_true]
    congr 3
    omega
   ·have : decide (((s[n]).toNat : Int) = 32) = false := by
     simp only [decide_eq_false_iff_not]
     intro h2
     apply hc
     apply UInt8.toNat.inj
     have : (s[n]).toNat = 32 := by omega
     rw [this]; rfl
    rw [this]
    simp [hc]
theorem law190 (h : Sc μ l i s fx r) (hs : s.length ≤ 1000000) {n : Nat} (hn : n ≤ s.length) : (ev E).call 190 [LV.cv (CV.ref l i 0), LV.int .i64 (n : Int)] μ = some (.ret (LV.int .i64 (skipN fx s n : Nat)) μ) := by
 refine ev_call ?_
 rw [nf190, loop190 h hs (s.length - n) n (by omega), opt_s, nfXL190_1_0]
theorem blanks_le : ∀ (l : List UInt8), blanks l ≤ l.length
 | [] => Nat.le_refl _
 | c :: r => by
  unfold blanks
  have := blanks_le r
  split <;> simp <;> omega
theorem skipN_le {n : Nat} (hn : n ≤ s.length) : skipN fx s n ≤ s.length := by
 unfold skipN
 have := blanks_le (s.drop n)
 rw [List.length_drop] at this
 split <;> omega
theorem skipN_ge {n : Nat} : n ≤ skipN fx s n := by
 unfold skipN
 split <;> omega
def atC (fx : Bool) (s : List UInt8) (n : Nat) : UInt8 := (s[skipN fx s n]?).getD 0
def atE (fx : Bool) (s : List UInt8) (n : Nat) : Nat := if skipN fx s n < s.length then skipN fx s n + 1 else skipN fx s n
theorem law168 (h : Sc μ l i s fx r) (hs : s.length ≤ 1000000) {n : Nat} (hn : n ≤ s.length) :
  (ev E).call 168 [LV.cv (CV.ref l i 0), LV.int .i64 (n : Int)] μ = some (.ret (.ltup [LV.int .u8 ((atC fx s n).toNat : Int), LV.int .i64 (atE fx s n : Nat)]) μ) := by
 refine ev_call ?_
 rw [nf168, law190 h hs hn, callK_ret, getInt_i, opt_s, h, rd_str, strip_str, opt_s, getStr_s, opt_s]
 have hle := skipN_le (fx := fx) hn
 by_cases hlt : skipN fx s n < s.length
 ·have h1 : decide ((s.length : Int) ≤ (skipN fx s n : Int)) = false := by simp; omega
  rw [h1, cond_false]
  have h2 : G168_4 (ev E) l i (skipN fx s n : Nat) μ = some (XG168_4_0 ((atC fx s n).toNat : Int) (atE fx s n : Nat) μ) := by
   refine ev_seg ?_
   rw [nfG168_4, h, rd_str, strip_str, opt_s, getStr_s, opt_s, strAt_get, List.getElem?_eq_getElem hlt, opt_s]
   simp only [atC, atE, hlt, if_true, List.getElem?_eq_getElem, Option.getD_some]
   rw [wrap64 (by omega) (by omega)]
   rfl
  rw [h2, opt_s, nfXG168_4_0]
 ·have h1 : decide ((s.length : Int) ≤ (skipN fx s n : Int)) = true := by simp; omega
  rw [h1, cond_true]
  have : s[skipN fx s n]? = none := List.getElem?_eq_none (by omega)
  simp only [atC, atE, hlt, if_false, this, Option.getD_none]
  rfl
def runL (fx : Bool) (p : UInt8 → Bool) : List UInt8 → Nat → List UInt8 × Nat
 | [], _ => ([], 0)
 | c :: r, k => if fx && c == 32 then runL fx p r (k + 1) else if c != 0 && p c then (c :: (runL fx p r 0).1, k + 1 + (runL fx p r 0).2) else ([], 0)
def runC (fx : Bool) (p : UInt8 → Bool) (s : List UInt8) (n : Nat) : List UInt8 := (runL fx p (s.drop n) 0).1
def runE (fx : Bool) (p : UInt8 → Bool) (s : List UInt8) (n : Nat) : Nat := n + (runL fx p (s.drop n) 0).2
theorem runL_blanks {p : UInt8 → Bool} : ∀ (l : List UInt8) (k : Nat), runL true p l k = runL true p (l.drop (blanks l)) (k + blanks l)
 | [], k => rfl
 | c :: r, k => by
  by_cases hc : c = 32
  ·have e1 : runL true p (c :: r) k = runL true p r (k + 1) := by simp [runL, hc]
   have e2 : blanks (c :: r) = blanks r + 1 := by simp [blanks, hc]
   rw [e1, e2, runL_blanks r (k + 1)]
   simp only [List.drop_succ_cons]
   congr 1
   omega
  ·have e2 : blanks (c :: r) = 0 := by simp [blanks, hc]
   rw [e2]; rfl
theorem blanks_head : ∀ (l : List UInt8) (c : UInt8) (r : List UInt8), l.drop (blanks l) = c :: r → c ≠ 32
 | [], c, r, h => by simp [blanks] at h
 | d :: t, c, r, h => by
  by_cases hd : d = 32
  ·have e2 : blanks (d :: t) = blanks t + 1 := by simp [blanks, hd]
   rw [e2, List.drop_succ_cons] at h
   exact blanks_head t c r h
  ·have e2 : blanks (d :: t) = 0 := by simp [blanks, hd]
   rw [e2] at h
   simp only [List.drop_zero, List.cons.injEq] at h
   rw [← h.1]; exact hd
theorem run_step {p : UInt8 → Bool} {n : Nat} : (runC fx p s n, runE fx p s n) = if atC fx s n != 0 && p (atC fx s n) then (atC fx s n :: runC fx p s (atE fx s n), runE fx p s (atE fx s n)) else ([], n) := by
 have key : ∀ m k, skipN fx s n = m → m = n + k → runL fx p (s.drop n) 0 = runL fx p (s.drop m) k → (∀ c t, s.drop m = c :: t → (fx && c == 32) = false) →
   (runC fx p s n, runE fx p s n) = if atC fx s n != 0 && p (atC fx s n) then (atC fx s n :: runC fx p s (atE fx s n), runE fx p s (atE fx s n)) else ([], n) := by
  intro m k hm hk hrun hc
  simp only [runC, runE, atC, atE, hm]
  rw [hrun]
  by_cases hlt : m < s.length
  ·have hd : s.drop m = s[m] :: s.drop (m + 1) := List.drop_eq_getElem_cons hlt
   have hc' := hc _ _ hd
   rw [hd]
   simp only [runL, hc', Bool.false_eq_true, if_false, List.getElem?_eq_getElem hlt, Option.getD_some, hlt, if_true]
   split
   ·simp only [Prod.mk.injEq, true_and]; omega
   ·rfl
  ·have hd : s.drop m = [] := List.drop_eq_nil_of_le (by omega)
   rw [hd]
   simp [runL, List.getElem?_eq_none (by omega : s.length ≤ m)]
 cases fx with
 | false => exact key n 0 rfl rfl rfl fun c t _ => rfl
 | true =>
  refine key (n + blanks (s.drop n)) (blanks (s.drop n)) (by simp [skipN]) rfl ?_ fun c t h => ?_
  ·rw [runL_blanks, List.drop_drop, Nat.zero_add]
  ·have := blanks_head (s.drop n) c t (by rw [List.drop_drop]; exact h)
   simp [this]
theorem runC_step {p : UInt8 → Bool} {n : Nat} (h : (atC fx s n != 0 && p (atC fx s n)) = true) : runC fx p s n = atC fx s n :: runC fx p s (atE fx s n) ∧ runE fx p s n = runE fx p s (atE fx s n) := by
 have := run_step (fx := fx) (s := s) (p := p) (n := n)
 rw [h, if_pos rfl, Prod.mk.injEq] at this
 exact this
theorem runC_end {p : UInt8 → Bool} {n : Nat} (h : (atC fx s n != 0 && p (atC fx s n)) = false) : runC fx p s n = [] ∧ runE fx p s n = n := by
 have := run_step (fx := fx) (s := s) (p := p) (n := n)
 rw [h, if_neg (by simp), Prod.mk.injEq] at this
 exact this
theorem atE_gt {n : Nat} (h : atC fx s n ≠ 0) : n < atE fx s n ∧ atE fx s n ≤ s.length := by
 have h1 := skipN_ge (fx := fx) (s := s) (n := n)
 by_cases hlt : skipN fx s n < s.length
 ·simp only [atE, hlt, if_true]; omega
 ·exfalso
  apply h
  simp only [atC, List.getElem?_eq_none (by omega : s.length ≤ skipN fx s n), Option.getD_none]
theorem atE_le {n : Nat} (hn : n ≤ s.length) : atE fx s n ≤ s.length := by
 have := skipN_le (fx := fx) hn
 unfold atE
 split <;> omega
theorem int_u8_zero {c : UInt8} : decide ((c.toNat : Int) = 0) = !(c != 0) := by
 by_cases h : c = 0
 ·subst h; rfl
 ·have : c.toNat ≠ 0 := fun h2 => h (UInt8.toNat.inj h2)
  have h1 : (c != 0) = true := by simpa using h
  rw [h1]
  simp only [Bool.not_true, decide_eq_false_iff_not]
  omega
theorem loop169 (h : Sc μ l i s fx r) (hs : s.length ≤ 1000000) {f : FuncId} {p : UInt8 → Bool} (hp : ∀ c : UInt8, (ev E).call f [LV.int .u8 (c.toNat : Int)] μ = some (.ret (LV.bool (p c)) μ)) :
  ∀ (k n : Nat) (acc : List UInt8), s.length - n ≤ k → n ≤ s.length → acc.length + (s.length - n) ≤ 1000000 → L169_2 (ev E) l i (n : Int) f (bytesCV acc) μ = some (XL169_2_0 (acc ++ runC fx p s n) (runE fx p s n : Nat) μ) := by
 intro k
 induction k with
 | zero =>
  intro n acc hk hn ha
  refine ev_loop ?_
  rw [nfL169_2, law168 h hs hn]
  simp only [callK_ret, getTup_t, opt_s, uncons_c, getInt_i, isNilL_n]
  have h0 : atC fx s n = 0 := by
   by_cases h0 : atC fx s n = 0
   ·exact h0
   ·have := atE_gt h0; omega
  obtain ⟨h1, h2⟩ := runC_end (fx := fx) (s := s) (p := p) (n := n) (by rw [h0]; rfl)
  rw [h0, h1, h2]
  simp only [int_u8_zero, byteCells_bytesCV, opt_s, List.append_nil]
  rfl
 | succ k ih =>
  intro n acc hk hn ha
  refine ev_loop ?_
  rw [nfL169_2, law168 h hs hn]
  simp only [callK_ret, getTup_t, opt_s, uncons_c, getInt_i, isNilL_n, int_u8_zero]
  by_cases h0 : atC fx s n = 0
  ·obtain ⟨h1, h2⟩ := runC_end (fx := fx) (s := s) (p := p) (n := n) (by rw [h0]; rfl)
   rw [h0, h1, h2]
   simp only [byteCells_bytesCV, opt_s, List.append_nil]
   rfl
  ·have h3 : (atC fx s n != 0) = true := by simp [h0]
   rw [h3, Bool.not_true, cond_false, hp, callK_ret, getBool_b, opt_s]
   cases hpc : p (atC fx s n) with
   | false =>
    obtain ⟨h1, h2⟩ := runC_end (fx := fx) (s := s) (p := p) (n := n) (by rw [hpc]; simp)
    rw [h1, h2]
    simp only [Bool.not_false, cond_true, byteCells_bytesCV, opt_s, List.append_nil]
   | true =>
    obtain ⟨h1, h2⟩ := runC_step (fx := fx) (s := s) (p := p) (n := n) (by rw [hpc, h3]; rfl)
    obtain ⟨h4, h5⟩ := atE_gt h0
    have h6 : G169_5 (ev E) l i f (bytesCV acc) ((atC fx s n).toNat : Int) (atE fx s n : Nat) μ = some (XG169_5_0 l i (atE fx s n : Nat) f (bytesCV (acc ++ [atC fx s n])) μ) := by
     refine ev_seg ?_
     have e : [CV.int .u8 ((atC fx s n).toNat : Int)] = bytesCV [atC fx s n] := rfl
     rw [nfG169_5, e, appOK_bytes (by simp; omega), gB_t, bytesCV_app]
    simp only [Bool.not_true, cond_false, h6, opt_s, nfXG169_5_0]
    rw [ih (atE fx s n) (acc ++ [atC fx s n]) (by omega) h5 (by simp; omega), h1, h2]
    simp
theorem law169 (h : Sc μ l i s fx r) (hs : s.length ≤ 1000000) {f : FuncId} {p : UInt8 → Bool} (hp : ∀ c : UInt8, (ev E).call f [LV.int .u8 (c.toNat : Int)] μ = some (.ret (LV.bool (p c)) μ)) {n : Nat} (hn : n ≤ s.length) :
  (ev E).call 169 [LV.cv (CV.ref l i 0), LV.int .i64 (n : Int), LV.cv (CV.clo f [])] μ = some (.ret (.ltup [LV.str (runC fx p s n), LV.int .i64 (runE fx p s n : Nat)]) μ) := by
 refine ev_call ?_
 have := loop169 h hs hp (s.length - n) n [] (Nat.le_refl _) hn (by simp; omega)
 have e : bytesCV [] = [] := rfl
 rw [e, List.nil_append] at this
 rw [nf169, this, opt_s, nfXL169_2_0]
end
end Go.Abs

namespace Go.Abs
def isLet (c : UInt8) : Bool := (decide (97 ≤ c.toNat) && decide (c.toNat ≤ 122)) || (decide (65 ≤ c.toNat) && decide (c.toNat ≤ 90))
def isDig (c : UInt8) : Bool := decide (48 ≤ c.toNat) && decide (c.toNat ≤ 57)
def isPar (c : UInt8) : Bool := isLet c || isDig c || decide (c.toNat = 95)
end Go.Abs

set_option linter.unusedVariables false
set_option linter.unusedSimpArgs false
set_option maxRecDepth 100000
namespace Go.Abs
open Go Go.Proofs
section
variable {μ : Mu}
theorem dI (a b : Nat) : decide ((a : Int) ≤ (b : Int)) = decide (a ≤ b) := by simp
theorem law90 {c : UInt8} : (ev E).call 90 [LV.int .u8 (c.toNat : Int)] μ = some (.ret (LV.bool (isLet c)) μ) := by
 refine ev_call ?_
 rw [nf90]
 have e1 : decide ((97 : Int) ≤ (c.toNat : Int)) = decide (97 ≤ c.toNat) := dI 97 _
 have e2 : decide ((c.toNat : Int) ≤ 122) = decide (c.toNat ≤ 122) := dI _ 122
 have e3 : decide ((65 : Int) ≤ (c.toNat : Int)) = decide (65 ≤ c.toNat) := dI 65 _
 have e4 : decide ((c.toNat : Int) ≤ 90) = decide (c.toNat ≤ 90) := dI _ 90
 rw [e1, e2, e3, e4]
 unfold isLet
 cases decide (97 ≤ c.toNat) <;> cases decide (c.toNat ≤ 122) <;> cases decide (65 ≤ c.toNat) <;> rfl
theorem law132 {c : UInt8} : (ev E).call 132 [LV.int .u8 (c.toNat : Int)] μ = some (.ret (LV.bool (isDig c)) μ) := by
 refine ev_call ?_
 rw [nf132]
 have e1 : decide ((48 : Int) ≤ (c.toNat : Int)) = decide (48 ≤ c.toNat) := dI 48 _
 have e2 : decide ((c.toNat : Int) ≤ 57) = decide (c.toNat ≤ 57) := dI _ 57
 rw [e1, e2]
 unfold isDig
 cases decide (48 ≤ c.toNat) <;> rfl
theorem law93 {c : UInt8} : (ev E).call 93 [LV.int .u8 (c.toNat : Int)] μ = some (.ret (LV.bool (isPar c)) μ) := by
 refine ev_call ?_
 rw [nf93, law90]
 simp only [callK_ret, getTup_t, opt_s, uncons_c, getInt_i, getStr_s, getBool_b, isNilL_n, gB_t, cond_true, cond_false, Bool.not_true, Bool.not_false, getSl_s, getSl_o, getOsl_o]
 unfold isPar
 cases isLet c
 ·simp only [callK_ret, getTup_t, opt_s, uncons_c, getInt_i, getStr_s, getBool_b, isNilL_n, gB_t, cond_true, cond_false, Bool.not_true, Bool.not_false, getSl_s, getSl_o, getOsl_o, law132]
  cases isDig c
  ·simp only [callK_ret, getTup_t, opt_s, uncons_c, getInt_i, getStr_s, getBool_b, isNilL_n, gB_t, cond_true, cond_false, Bool.not_true, Bool.not_false, getSl_s, getSl_o, getOsl_o, Bool.false_or]
   have : decide ((c.toNat : Int) = 95) = decide (c.toNat = 95) := by simp; omega
   rw [this]
  ·rfl
 ·rfl
def idxS (x : List UInt8) : List (List UInt8) → Nat → Int
 | [], _ => -1
 | a :: r, j => if x = a then (j : Int) else idxS x r (j + 1)
theorem idxS_mem (x : List UInt8) : ∀ (l : List (List UInt8)) (j : Nat), decide (0 ≤ idxS x l j) = l.contains x
 | [], j => rfl
 | a :: r, j => by
  unfold idxS
  by_cases h : x = a
  ·simp [h]
  ·have h1 : (x == a) = false := by simp [h]
   rw [if_neg h, idxS_mem x r (j + 1), List.contains_cons, h1, Bool.false_or]
noncomputable def end94 (n : Int) (μ : Mu) : St := if n = -1 then XL94_2_1 μ else XL94_2_0 n μ
theorem loop94 {l : List (List UInt8)} {x : List UInt8} (hl : l.length ≤ 1000000) : ∀ (k j : Nat), j + k = l.length →
  L94_2 (ev E) (strsCV l) x (l.length : Int) (j : Int) μ = some (end94 (idxS x (l.drop j) j) μ) := by
 intro k
 induction k with
 | zero =>
  intro j hj
  refine ev_loop ?_
  rw [nfL94_2]
  have : List.drop j l = [] := List.drop_eq_nil_of_le (by omega)
  have h1 : decide ((j : Int) < (l.length : Int)) = false := by simp; omega
  rw [h1, this]
  rfl
 | succ k ih =>
  intro j hj
  refine ev_loop ?_
  rw [nfL94_2]
  have hlt : j < l.length := by omega
  have h1 : decide ((j : Int) < (l.length : Int)) = true := by simp; omega
  have hd : List.drop j l = l[j] :: List.drop (j + 1) l := List.drop_eq_getElem_cons hlt
  have hg : (strsCV l)[j]? = some (CV.str l[j]) := by simp [strsCV, hlt]
  have e : IntKind.wrap .i64 ((j : Int) + 1) = ((j + 1 : Nat) : Int) := by rw [wrap64 (by omega) (by omega)]; omega
  rw [h1, slAt_get, hg, hd, e]
  simp only [callK_ret, getTup_t, opt_s, uncons_c, getInt_i, getStr_s, getBool_b, isNilL_n, gB_t, cond_true, cond_false, Bool.not_true, Bool.not_false, getSl_s, getSl_o, getOsl_o, getStr_cv, idxS]
  by_cases h : x = l[j]
  ·rw [if_pos h]
   have : decide (x = l[j]) = true := by simp [h]
   rw [this, cond_true, end94, if_neg (by omega)]
  ·rw [if_neg h]
   have : decide (x = l[j]) = false := by simp [h]
   rw [this, cond_false, ih (j + 1) (by omega)]
theorem step94 {l : List (List UInt8)} {x : List UInt8} (hl : l.length ≤ 1000000) : callStep E (ev E) 94 [LV.cv (CV.sl (strsCV l)), LV.str x] μ = some (.ret (LV.int .i64 (idxS x l 0)) μ) := by
  have e : (strsCV l).length = l.length := by simp [strsCV]
  have := loop94 (μ := μ) (l := l) (x := x) hl l.length 0 (by omega)
  rw [List.drop_zero] at this
  rw [nf94, e]
  have e0 : ((0 : Nat) : Int) = (0 : Int) := rfl
  rw [← e0, this, opt_s, end94]
  by_cases h : idxS x l 0 = -1
  ·rw [if_pos h, nfXL94_2_1, h]
  ·rw [if_neg h, nfXL94_2_0]
theorem law94 {l : List (List UInt8)} {x : List UInt8} (hl : l.length ≤ 1000000) : (ev E).call 94 [LV.cv (CV.sl (strsCV l)), LV.str x] μ = some (.ret (LV.int .i64 (idxS x l 0)) μ) := ev_call (step94 hl)
theorem law50 {l : List (List UInt8)} {x : List UInt8} (hl : l.length ≤ 1000000) : (ev E).call 50 [LV.cv (CV.sl (strsCV l)), LV.str x] μ = some (.ret (LV.bool (l.contains x)) μ) := by
 refine ev_call ?_
 rw [nf50, law94 hl]
 simp only [callK_ret, getTup_t, opt_s, uncons_c, getInt_i, getStr_s, getBool_b, isNilL_n, gB_t, cond_true, cond_false, Bool.not_true, Bool.not_false, getSl_s, getSl_o, getOsl_o]
 rw [idxS_mem]
end
end Go.Abs

set_option linter.unusedVariables false
set_option linter.unusedSimpArgs false
set_option maxRecDepth 100000
namespace Go.Abs
open Go Go.Proofs
def upB (c : UInt8) : UInt8 := if 97 ≤ c.toNat ∧ c.toNat ≤ 122 then c - 32 else c
theorem up_byte : ∀ i : Fin 128, (if 0 ≤ Lib.toUpperU (i.val : Int) then Lib.encodeRune (Lib.toUpperU (i.val : Int)) else []) = [upB (UInt8.ofNat i.val)] := by decide
theorem up_ascii : ∀ (l : List UInt8), (∀ b ∈ l, b.toNat < 128) → Lib.toUpperD l = l.map upB
 | [], _ => rfl
 | b :: t, ha => by
  have hb := ha b List.mem_cons_self
  have ih := up_ascii t (fun x hx => ha x (List.mem_cons_of_mem _ hx))
  have h1 := up_byte ⟨b.toNat, hb⟩
  simp only at h1
  unfold Lib.toUpperD at ih ⊢
  rw [Lib.mapD_step Lib.toUpperU (b :: t) (by simp), Lib.decodeL_ascii b t hb]
  dsimp only
  rw [h1, List.drop_succ_cons, List.drop_zero, ih]
  simp
theorem runL_all {fx : Bool} {p : UInt8 → Bool} : ∀ (l : List UInt8) (k : Nat), ∀ b ∈ (runL fx p l k).1, p b = true
 | [], k, b, hb => by simp [runL] at hb
 | c :: r, k, b, hb => by
  unfold runL at hb
  split at hb
  ·exact runL_all r (k + 1) b hb
  ·split at hb
   ·rename_i h
    simp only [List.mem_cons] at hb
    rcases hb with rfl | hb
    ·simp only [Bool.and_eq_true] at h; exact h.2
    ·exact runL_all r 0 b hb
   ·simp at hb
theorem runC_all {fx : Bool} {p : UInt8 → Bool} {s : List UInt8} {n : Nat} : ∀ b ∈ runC fx p s n, p b = true := runL_all _ _
end Go.Abs

set_option linter.unusedVariables false
set_option linter.unusedSimpArgs false
set_option maxRecDepth 100000
namespace Go.Abs
open Go Go.Proofs
def wordsS : List (List UInt8) := [[46, 76, 84, 46], [46, 76, 69, 46], [46, 69, 81, 46], [46, 78, 69, 46], [46, 71, 69, 46], [46, 71, 84, 46], [46, 78, 79, 84, 46], [46, 65, 78, 68, 46], [46, 79, 82, 46], [46, 69, 81, 86, 46], [46, 78, 69, 81, 86, 46]]
def signsS : List (List UInt8) := [[42, 42], [47, 47], [61, 62], [42], [47], [43], [45], [40], [41], [44], [58], [61], [37]]
def trueS : List UInt8 := [46, 84, 82, 85, 69, 46]
def falseS : List UInt8 := [46, 70, 65, 76, 83, 69, 46]
abbrev up (s : List UInt8) : List UInt8 := Lib.toUpperD s
theorem runL_le {fx : Bool} {p : UInt8 → Bool} : ∀ (l : List UInt8) (k : Nat), (runL fx p l k).1.length ≤ l.length ∧ (runL fx p l k).2 ≤ k + l.length
 | [], k => ⟨Nat.le_refl _, by simp [runL]⟩
 | c :: r, k => by
  unfold runL
  have h1 := runL_le (fx := fx) (p := p) r (k + 1)
  have h2 := runL_le (fx := fx) (p := p) r 0
  split
  ·simp only [List.length_cons]; omega
  ·split
   ·simp only [List.length_cons]; omega
   ·simp
section
variable {μ : Mu} {l i : Nat} {s : List UInt8} {fx : Bool} {r : List LV}
theorem runE_le {p : UInt8 → Bool} {n : Nat} (hn : n ≤ s.length) : runE fx p s n ≤ s.length := by
 have := (runL_le (fx := fx) (p := p) (s.drop n) 0).2
 rw [List.length_drop] at this
 unfold runE
 omega
theorem runC_len {p : UInt8 → Bool} {n : Nat} : (runC fx p s n).length ≤ s.length := by
 have := (runL_le (fx := fx) (p := p) (s.drop n) 0).1
 rw [List.length_drop] at this
 unfold runC
 omega
theorem isLet_ascii {c : UInt8} (h : isLet c = true) : c.toNat < 128 := by
 simp only [isLet, Bool.or_eq_true, Bool.and_eq_true, decide_eq_true_eq] at h
 omega
theorem up_run {n : Nat} : Lib.toUpperD (runC fx isLet s n) = (runC fx isLet s n).map upB := up_ascii _ fun b hb => isLet_ascii (runC_all b hb)
theorem law51 : (ev E).call 51 [] μ = some (.ret (LV.osl (strsCV wordsS)) μ) := ev_call (by rw [nf51]; rfl)
theorem law52 : (ev E).call 52 [] μ = some (.ret (LV.osl (strsCV signsS)) μ) := ev_call (by rw [nf52]; rfl)
def dotText (fx : Bool) (s : List UInt8) (n : Nat) : List UInt8 := [46] ++ up (runC fx isLet s (atE fx s n)) ++ [46]
def dotEnd (fx : Bool) (s : List UInt8) (n : Nat) : Nat := atE fx s (runE fx isLet s (atE fx s n))
def dotOK (fx : Bool) (s : List UInt8) (n : Nat) : Bool := decide (atC fx s (runE fx isLet s (atE fx s n)) = 46) && (wordsS.contains (dotText fx s n) || decide (dotText fx s n = trueS) || decide (dotText fx s n = falseS))
def dotted (fx : Bool) (s : List UInt8) (n : Nat) : List UInt8 × Nat × Bool := if atC fx s n = 46 then (dotText fx s n, dotEnd fx s n, dotOK fx s n) else ([], n, false)
theorem u8_eq {c : UInt8} {k : Nat} (hk : k < 256) : decide ((c.toNat : Int) = (k : Int)) = decide (c = UInt8.ofNat k) := by
 have h2 : (UInt8.ofNat k).toNat = k := by simp [hk]
 by_cases h : c = UInt8.ofNat k
 ·subst h
  rw [h2]; simp
 ·have h1 : c.toNat ≠ k := fun e => h (UInt8.toNat.inj (by rw [e, h2]))
  simp only [h, decide_false, decide_eq_false_iff_not]
  omega
theorem law172 (h : Sc μ l i s fx r) (hs : s.length ≤ 200000) {n : Nat} (hn : n ≤ s.length) :
  (ev E).call 172 [LV.cv (CV.ref l i 0), LV.int .i64 (n : Int)] μ = some (.ret (.ltup [LV.str (dotted fx s n).1, LV.int .i64 ((dotted fx s n).2.1 : Nat), LV.bool (dotted fx s n).2.2]) μ) := by
 refine ev_call ?_
 rw [nf172, law168 h (by omega) hn]
 have e46 : ∀ c : UInt8, decide ((c.toNat : Int) = 46) = decide (c = 46) := fun c => u8_eq (k := 46) (by omega)
 simp only [callK_ret, getTup_t, opt_s, uncons_c, getInt_i, getStr_s, getBool_b, isNilL_n, gB_t, cond_true, cond_false, Bool.not_true, Bool.not_false, getSl_s, getSl_o, getOsl_o, e46]
 by_cases hc : atC fx s n = 46
 ·have hle := atE_le (fx := fx) hn
  have hle2 := runE_le (fx := fx) (p := isLet) hle
  have hr := runC_len (fx := fx) (s := s) (p := isLet) (n := atE fx s n)
  have hu : (Lib.toUpperD (runC fx isLet s (atE fx s n))).length ≤ s.length := by rw [up_run, List.length_map]; exact hr
  have hG : G172_4 (ev E) l i (atE fx s n : Nat) μ = some (XG172_4_0 (dotText fx s n) (dotEnd fx s n : Nat) (dotOK fx s n) μ) := by
   refine ev_seg ?_
   rw [nfG172_4, law169 h (by omega) (fun c => law90) hle]
   simp only [callK_ret, getTup_t, opt_s, uncons_c, getInt_i, getStr_s, getBool_b, isNilL_n, gB_t, cond_true, cond_false, Bool.not_true, Bool.not_false, getSl_s, getSl_o, getOsl_o]
   rw [law168 h (by omega) hle2]
   simp only [callK_ret, getTup_t, opt_s, uncons_c, getInt_i, getStr_s, getBool_b, isNilL_n, gB_t, cond_true, cond_false, Bool.not_true, Bool.not_false, getSl_s, getSl_o, getOsl_o]
   rw [law91 (by omega)]
   simp only [callK_ret, getTup_t, opt_s, uncons_c, getInt_i, getStr_s, getBool_b, isNilL_n, gB_t, cond_true, cond_false, Bool.not_true, Bool.not_false, getSl_s, getSl_o, getOsl_o]
   rw [small_le (by simp; omega), small_le (by simp; omega)]
   simp only [callK_ret, getTup_t, opt_s, uncons_c, getInt_i, getStr_s, getBool_b, isNilL_n, gB_t, cond_true, cond_false, Bool.not_true, Bool.not_false, getSl_s, getSl_o, getOsl_o, law51]
   rw [law50 (l := wordsS) (by decide)]
   simp only [callK_ret, getTup_t, opt_s, uncons_c, getInt_i, getStr_s, getBool_b, isNilL_n, gB_t, cond_true, cond_false, Bool.not_true, Bool.not_false, getSl_s, getSl_o, getOsl_o, e46]
   have ht : [46] ++ Lib.toUpperD (runC fx isLet s (atE fx s n)) ++ [46] = dotText fx s n := rfl
   have h3 : ([46, 84, 82, 85, 69, 46] : List UInt8) = trueS := rfl
   have h4 : ([46, 70, 65, 76, 83, 69, 46] : List UInt8) = falseS := rfl
   rw [ht, h3, h4]
   unfold dotOK
   have he : atE fx s (runE fx isLet s (atE fx s n)) = dotEnd fx s n := rfl
   rw [he]
   cases wordsS.contains (dotText fx s n) <;> cases decide (dotText fx s n = trueS) <;> cases decide (atC fx s (runE fx isLet s (atE fx s n)) = 46) <;> simp
  rw [hG]
  simp only [hc, decide_true, callK_ret, getTup_t, opt_s, uncons_c, getInt_i, getStr_s, getBool_b, isNilL_n, gB_t, cond_true, cond_false, Bool.not_true, Bool.not_false, getSl_s, getSl_o, getOsl_o, nfXG172_4_0, dotted, if_true]
 ·simp only [hc, decide_false, callK_ret, getTup_t, opt_s, uncons_c, getInt_i, getStr_s, getBool_b, isNilL_n, gB_t, cond_true, cond_false, Bool.not_true, Bool.not_false, getSl_s, getSl_o, getOsl_o, dotted, if_false]
end
end Go.Abs

set_option linter.unusedVariables false
set_option linter.unusedSimpArgs false
set_option maxRecDepth 100000
namespace Go.Abs
open Go Go.Proofs
section
variable {μ : Mu} {l i : Nat} {s : List UInt8} {fx : Bool} {r : List LV}
theorem clear32_fin : ∀ i : Fin 256, IntKind.wrap .u8 ((BitVec.ofInt (IntKind.bits .u8) (i.val : Int) &&& ~~~BitVec.ofInt (IntKind.bits .u8) (32 : Int)).toNat : Int) = (((UInt8.ofNat i.val) &&& 223).toNat : Int) := by decide
theorem clear32 (c : UInt8) : IntKind.wrap .u8 ((BitVec.ofInt (IntKind.bits .u8) (c.toNat : Int) &&& ~~~BitVec.ofInt (IntKind.bits .u8) (32 : Int)).toNat : Int) = ((c &&& 223).toNat : Int) := by
 have := clear32_fin ⟨c.toNat, c.toNat_lt⟩
 simpa using this
def expL (fx : Bool) (s : List UInt8) (n : Nat) : UInt8 := atC fx s n &&& 223
def expSign (fx : Bool) (s : List UInt8) (n : Nat) : List UInt8 := if atC fx s (atE fx s n) = 45 then [45] else []
def expStart (fx : Bool) (s : List UInt8) (n : Nat) : Nat := if atC fx s (atE fx s n) = 43 ∨ atC fx s (atE fx s n) = 45 then atE fx s (atE fx s n) else atE fx s n
def expDigits (fx : Bool) (s : List UInt8) (n : Nat) : List UInt8 := runC fx isDig s (expStart fx s n)
def expo (fx : Bool) (s : List UInt8) (n : Nat) : UInt8 × List UInt8 × Nat × Bool :=
 if expL fx s n = 69 ∨ expL fx s n = 68 then (expL fx s n, expSign fx s n ++ expDigits fx s n, runE fx isDig s (expStart fx s n), !decide (expDigits fx s n = [])) else (0, [], n, false)
theorem law191 (h : Sc μ l i s fx r) (hs : s.length ≤ 200000) {n : Nat} (hn : n ≤ s.length) :
  (ev E).call 191 [LV.cv (CV.ref l i 0), LV.int .i64 (n : Int)] μ = some (.ret (.ltup [LV.int .u8 ((expo fx s n).1.toNat : Int), LV.str (expo fx s n).2.1, LV.int .i64 ((expo fx s n).2.2.1 : Nat), LV.bool (expo fx s n).2.2.2]) μ) := by
 have e69 : ∀ c : UInt8, decide ((c.toNat : Int) = 69) = decide (c = 69) := fun c => u8_eq (k := 69) (by omega)
 have e68 : ∀ c : UInt8, decide ((c.toNat : Int) = 68) = decide (c = 68) := fun c => u8_eq (k := 68) (by omega)
 have e43 : ∀ c : UInt8, decide ((c.toNat : Int) = 43) = decide (c = 43) := fun c => u8_eq (k := 43) (by omega)
 have e45 : ∀ c : UInt8, decide ((c.toNat : Int) = 45) = decide (c = 45) := fun c => u8_eq (k := 45) (by omega)
 have hle := atE_le (fx := fx) hn
 have hle2 := atE_le (fx := fx) hle
 have hst : expStart fx s n ≤ s.length := by unfold expStart; split <;> assumption
 have hr := runC_len (fx := fx) (s := s) (p := isDig) (n := expStart fx s n)
 have hG : ∀ (sg : List UInt8), sg.length ≤ 1 → G191_11 (ev E) l i ((expL fx s n).toNat : Int) (expStart fx s n : Nat) sg μ = some (XG191_11_0 ((expL fx s n).toNat : Int) (sg ++ expDigits fx s n) (runE fx isDig s (expStart fx s n) : Nat) (!decide (expDigits fx s n = [])) μ) := by
  intro sg hsg
  refine ev_seg ?_
  rw [nfG191_11, law169 h (by omega) (fun c => law132) hst]
  simp only [callK_ret, getTup_t, opt_s, uncons_c, getInt_i, getStr_s, getBool_b, isNilL_n, gB_t, cond_true, cond_false, Bool.not_true, Bool.not_false, getSl_s, getSl_o, getOsl_o]
  rw [small_le (by omega)]
  rfl
 have hG5 : G191_5 (ev E) l i ((expL fx s n).toNat : Int) (atE fx s n : Nat) μ = some (XG191_5_0 ((expL fx s n).toNat : Int) (expSign fx s n ++ expDigits fx s n) (runE fx isDig s (expStart fx s n) : Nat) (!decide (expDigits fx s n = [])) μ) := by
  refine ev_seg ?_
  rw [nfG191_5, law168 h (by omega) hle]
  simp only [callK_ret, getTup_t, opt_s, uncons_c, getInt_i, getStr_s, getBool_b, isNilL_n, gB_t, cond_true, cond_false, Bool.not_true, Bool.not_false, getSl_s, getSl_o, getOsl_o, e43, e45]
  by_cases h1 : atC fx s (atE fx s n) = 43
  ·have hx : expStart fx s n = atE fx s (atE fx s n) := by simp [expStart, h1]
   have hg : expSign fx s n = [] := by simp [expSign, h1]
   have := hG [] (by simp)
   rw [hx] at this
   simp only [h1, decide_true, callK_ret, getTup_t, opt_s, uncons_c, getInt_i, getStr_s, getBool_b, isNilL_n, gB_t, cond_true, cond_false, Bool.not_true, Bool.not_false, getSl_s, getSl_o, getOsl_o, hg]
   have h2 : decide ((43 : UInt8) = 45) = false := by decide
   rw [h2, cond_false, this, opt_s, nfXG191_11_0, hx]
  ·by_cases h2 : atC fx s (atE fx s n) = 45
   ·have hx : expStart fx s n = atE fx s (atE fx s n) := by simp [expStart, h2]
    have hg : expSign fx s n = [45] := by simp [expSign, h2]
    have := hG [45] (by simp)
    rw [hx] at this
    have h3 : decide ((45 : UInt8) = 43) = false := by decide
    simp only [h2, h3, decide_true, callK_ret, getTup_t, opt_s, uncons_c, getInt_i, getStr_s, getBool_b, isNilL_n, gB_t, cond_true, cond_false, Bool.not_true, Bool.not_false, getSl_s, getSl_o, getOsl_o, hg]
    rw [this, opt_s, nfXG191_11_0, hx]
   ·have hx : expStart fx s n = atE fx s n := by simp [expStart, h1, h2]
    have hg : expSign fx s n = [] := by simp [expSign, h2]
    have := hG [] (by simp)
    rw [hx] at this
    simp only [h1, h2, decide_false, callK_ret, getTup_t, opt_s, uncons_c, getInt_i, getStr_s, getBool_b, isNilL_n, gB_t, cond_true, cond_false, Bool.not_true, Bool.not_false, getSl_s, getSl_o, getOsl_o, hg]
    rw [this, opt_s, nfXG191_11_0, hx]
 refine ev_call ?_
 rw [nf191, law168 h (by omega) hn]
 simp only [callK_ret, getTup_t, opt_s, uncons_c, getInt_i, getStr_s, getBool_b, isNilL_n, gB_t, cond_true, cond_false, Bool.not_true, Bool.not_false, getSl_s, getSl_o, getOsl_o, clear32]
 have hL : atC fx s n &&& 223 = expL fx s n := rfl
 rw [hL]
 simp only [e69, e68]
 by_cases h1 : expL fx s n = 69
 ·have : expo fx s n = (expL fx s n, expSign fx s n ++ expDigits fx s n, runE fx isDig s (expStart fx s n), !decide (expDigits fx s n = [])) := by simp [expo, h1]
  rw [this, hG5]
  simp only [h1, decide_true, callK_ret, getTup_t, opt_s, uncons_c, getInt_i, getStr_s, getBool_b, isNilL_n, gB_t, cond_true, cond_false, Bool.not_true, Bool.not_false, getSl_s, getSl_o, getOsl_o]
  rw [← h1, nfXG191_5_0]
 ·by_cases h2 : expL fx s n = 68
  ·have : expo fx s n = (expL fx s n, expSign fx s n ++ expDigits fx s n, runE fx isDig s (expStart fx s n), !decide (expDigits fx s n = [])) := by simp [expo, h2]
   rw [this, hG5]
   have h3 : decide ((68 : UInt8) = 69) = false := by decide
   simp only [h2, h3, decide_true, callK_ret, getTup_t, opt_s, uncons_c, getInt_i, getStr_s, getBool_b, isNilL_n, gB_t, cond_true, cond_false, Bool.not_true, Bool.not_false, getSl_s, getSl_o, getOsl_o]
   rw [← h2, nfXG191_5_0]
  ·have : expo fx s n = (0, [], n, false) := by simp [expo, h1, h2]
   rw [this]
   simp only [h1, h2, decide_false, callK_ret, getTup_t, opt_s, uncons_c, getInt_i, getStr_s, getBool_b, isNilL_n, gB_t, cond_true, cond_false, Bool.not_true, Bool.not_false, getSl_s, getSl_o, getOsl_o]
   rfl
structure Tok where
 kind : Int
 type : Int
 text : List UInt8
 deriving DecidableEq
def Tok.cv (t : Tok) : CV := CV.agg [CV.int .i64 t.kind, CV.int .i64 t.type, CV.str t.text]
def wrong (e : Int) : CV := CV.iface 162 (CV.agg [CV.int .i64 e])
theorem law170 {e : Int} : (ev E).call 170 [LV.int .i64 e] μ = some (.panic (wrong e) μ) := ev_call (by rw [nf170]; rfl)
def orZero (s : List UInt8) : List UInt8 := if s = [] then [48] else s
def trimL (s : List UInt8) : List UInt8 := Lib.trimLeftB s 48
def trimR (s : List UInt8) : List UInt8 := Lib.trimRightB s 48
theorem law65l {t : List UInt8} : (ev E).call 65 [LV.str t, LV.bool true] μ = some (.ret (LV.str (orZero (trimL t))) μ) := by
 refine ev_call ?_
 rw [nf65, law62 (by decide)]
 simp only [callK_ret, getTup_t, opt_s, uncons_c, getInt_i, getStr_s, getBool_b, isNilL_n, gB_t, cond_true, cond_false, Bool.not_true, Bool.not_false, getSl_s, getSl_o, getOsl_o, orZero, trimL]
 by_cases h : Lib.trimLeftB t 48 = [] <;> simp [h]
theorem law65r {t : List UInt8} (ht : t.length ≤ 1000000) : (ev E).call 65 [LV.str t, LV.bool false] μ = some (.ret (LV.str (orZero (trimR t))) μ) := by
 refine ev_call ?_
 rw [nf65, law63 (by decide) ht]
 simp only [callK_ret, getTup_t, opt_s, uncons_c, getInt_i, getStr_s, getBool_b, isNilL_n, gB_t, cond_true, cond_false, Bool.not_true, Bool.not_false, getSl_s, getSl_o, getOsl_o, orZero, trimR]
 by_cases h : Lib.trimRightB t 48 = [] <;> simp [h]
theorem trimL_len (t : List UInt8) : (trimL t).length ≤ t.length := by
 unfold trimL Lib.trimLeftB
 exact (List.dropWhile_suffix _).length_le
theorem trimR_len (t : List UInt8) : (trimR t).length ≤ t.length := by
 unfold trimR Lib.trimRightB
 rw [List.length_reverse]
 exact Nat.le_trans (List.dropWhile_suffix _).length_le (by simp)
theorem law193 {a b : List UInt8} (ha : a.length ≤ 1000000) (hb : b.length ≤ 1000000) : (ev E).call 193 [LV.str a, LV.str b] μ = some (.ret (LV.int .i64 ((trimL a).length + (trimR b).length : Nat)) μ) := by
 refine ev_call ?_
 rw [nf193, law62 (by decide)]
 simp only [callK_ret, getTup_t, opt_s, uncons_c, getInt_i, getStr_s, getBool_b, isNilL_n, gB_t, cond_true, cond_false, Bool.not_true, Bool.not_false, getSl_s, getSl_o, getOsl_o]
 rw [law63 (by decide) hb]
 simp only [callK_ret, getTup_t, opt_s, uncons_c, getInt_i, getStr_s, getBool_b, isNilL_n, gB_t, cond_true, cond_false, Bool.not_true, Bool.not_false, getSl_s, getSl_o, getOsl_o]
 have h1 := trimL_len a
 have h2 := trimR_len b
 have e1 : Lib.trimLeftB a 48 = trimL a := rfl
 have e2 : Lib.trimRightB b 48 = trimR b := rfl
 rw [e1, e2, wrap64 (by omega) (by omega)]
 simp
def atoiN (s : List UInt8) : Int := match Lib.atoiAll s with | .ok v => v | .range => Lib.atoiSat s | _ => 0
def atoiK (s : List UInt8) : Bool := match Lib.atoiAll s with | .ok _ => true | _ => false
def atoiC (s : List UInt8) : CV := match atoiK s with | true => .v .nilIface | false => .iface 146 .undef
theorem atoiV_eq (s : List UInt8) : atoiV 146 s = .ltup [LV.int .i64 (atoiN s), .cv (atoiC s)] := by
 unfold atoiV atoiC atoiN atoiK
 cases Lib.atoiAll s <;> rfl
theorem nilIf_atoi (s : List UInt8) : nilIf (.cv (atoiC s)) = some (atoiK s) := by
 unfold atoiC
 cases atoiK s <;> rfl
theorem atoiN_range (s : List UInt8) : -9223372036854775808 ≤ atoiN s ∧ atoiN s ≤ 9223372036854775807 := by
 unfold atoiN
 split
 ·rename_i v h
  unfold Lib.atoiAll at h
  cases s with
  | nil => cases h
  | cons c r =>
   simp only at h
   split at h
   ·cases h
   ·cases h
   ·rename_i u hu
    split at h
    ·cases h
    ·rename_i h1
     split at h
     ·cases h
     ·rename_i h2
      injection h with h
      subst h
      split <;> omega
 ·unfold Lib.atoiSat
  split <;> omega
 ·omega
theorem getCv_c {c : CV} : getCv (.cv c) = some c := rfl
def outI (μ : Mu) : Except Int Tok → Out
 | .ok t => .ret (.cv t.cv) μ
 | .error e => .panic (wrong e) μ
def integer (d : List UInt8) : Except Int Tok := if 10 < d.length ∨ atoiK d = false ∨ 2147483647 < atoiN d then .error 28 else .ok ⟨1, 0, Lib.itoa (atoiN d)⟩
theorem below_wrong {n : Nat} {e : Int} : below n (wrong e) = true := rfl
theorem law192 {d : List UInt8} (hd : d.length ≤ 1000000) : (ev E).call 192 [LV.str d] μ = some (outI μ (integer d)) := by
 refine ev_call ?_
 rw [nf192, law45 hd, atoiV_eq]
 have hr := atoiN_range d
 simp only [callK_ret, getTup_t, opt_s, uncons_c, getInt_i, getStr_s, getBool_b, isNilL_n, gB_t, cond_true, cond_false, Bool.not_true, Bool.not_false, getSl_s, getSl_o, getOsl_o, getCv_c, law170, callK_panic, below_wrong]
 by_cases h1 : 10 < d.length
 ·have e1 : decide ((10 : Int) < (d.length : Int)) = true := by simp; omega
  have e2 : integer d = .error 28 := by simp [integer, h1]
  rw [e1, e2, cond_true]
  rfl
 ·have e1 : decide ((10 : Int) < (d.length : Int)) = false := by simp; omega
  rw [e1, cond_false, nilIf_atoi, opt_s]
  cases h2 : atoiK d with
  | false =>
   have e2 : integer d = .error 28 := by simp [integer, h2]
   rw [e2]; rfl
  | true =>
   simp only [callK_ret, getTup_t, opt_s, uncons_c, getInt_i, getStr_s, getBool_b, isNilL_n, gB_t, cond_true, cond_false, Bool.not_true, Bool.not_false, getSl_s, getSl_o, getOsl_o]
   by_cases h3 : 2147483647 < atoiN d
   ·have e2 : integer d = .error 28 := by simp [integer, h3]
    have e3 : decide (2147483647 < atoiN d) = true := by simp [h3]
    rw [e2, e3]; rfl
   ·have e2 : integer d = .ok ⟨1, 0, Lib.itoa (atoiN d)⟩ := by simp [integer, h1, h2, h3]
    have e3 : decide (2147483647 < atoiN d) = false := by simp [h3]
    rw [e2, e3, cond_false, law66 hr.1 hr.2]
    rfl
end
end Go.Abs

set_option linter.unusedVariables false
set_option linter.unusedSimpArgs false
set_option maxRecDepth 100000
namespace Go.Abs
open Go Go.Proofs
def outT (μ : Mu) : Except Int (Tok × Nat) → Out
 | .ok q => .ret (.ltup [.cv q.1.cv, LV.int .i64 (q.2 : Int)]) μ
 | .error e => .panic (wrong e) μ
def realText (whole part : List UInt8) : List UInt8 := orZero (trimL whole) ++ [46] ++ orZero (trimR part)
def power (digits : List UInt8) (ok : Bool) : List UInt8 := if ok then Lib.itoa (atoiN digits) else [48]
def realTok (text pow : List UInt8) (letter : UInt8) (ok : Bool) : Tok :=
 if letter = 68 ∧ ok = true then ⟨1, 2, text ++ [68] ++ pow⟩ else if pow = [48] then ⟨1, 1, text⟩ else ⟨1, 1, text ++ ([69] ++ pow)⟩
def tooLong (whole part digits : List UInt8) (ok : Bool) : Bool := decide (30 < (trimL whole).length + (trimR part).length) || (decide (3 < (Lib.trimPrefix digits [45]).length) && ok)
def real (whole part digits : List UInt8) (letter : UInt8) (ok : Bool) (e : Nat) : Except Int (Tok × Nat) :=
 if tooLong whole part digits ok then .error 7 else .ok (realTok (realText whole part) (power digits ok) letter ok, e)
def numWhole (fx : Bool) (s : List UInt8) (n : Nat) : List UInt8 := runC fx isDig s n
def numDot (fx : Bool) (s : List UInt8) (n : Nat) : Bool := decide (atC fx s (runE fx isDig s n) = 46) && (!(dotted fx s (runE fx isDig s n)).2.2 || decide (numWhole fx s n = []))
def numPart (fx : Bool) (s : List UInt8) (n : Nat) : List UInt8 := if numDot fx s n then runC fx isDig s (atE fx s (runE fx isDig s n)) else []
def numEnd (fx : Bool) (s : List UInt8) (n : Nat) : Nat := if numDot fx s n then runE fx isDig s (atE fx s (runE fx isDig s n)) else runE fx isDig s n
def number (fx : Bool) (s : List UInt8) (n : Nat) : Except Int (Tok × Nat) :=
 let q := expo fx s (numEnd fx s n)
 if !numDot fx s n && !q.2.2.2 then (match integer (numWhole fx s n) with | .ok t => .ok (t, numEnd fx s n) | .error e => .error e)
 else real (numWhole fx s n) (numPart fx s n) q.2.1 q.1 q.2.2.2 (if q.2.2.2 then q.2.2.1 else numEnd fx s n)
def stT (μ : Mu) (xr : Int → Int → Int → List UInt8 → Mu → St) (xp : CV → Mu → St) : Except Int (Tok × Nat) → St
 | .ok q => xr (q.2 : Int) q.1.kind q.1.type q.1.text μ
 | .error e => xp (wrong e) μ
section
variable {μ : Mu} {l i : Nat} {s : List UInt8} {fx : Bool} {r : List LV}
theorem seg23 {e : Nat} {text pow : List UInt8} {a b : Int} {c : List UInt8} (h : text.length + pow.length ≤ 1000000) :
  G171_23 (ev E) (e : Int) text pow a b c μ = some (XG171_23_0 (e : Int) 1 1 (if pow = [48] then text else text ++ ([69] ++ pow)) μ) := by
 refine ev_seg ?_
 rw [nfG171_23]
 by_cases hp : pow = [48]
 ·have : decide (pow = [48]) = true := by simp [hp]
  rw [this, if_pos hp]; rfl
 ·have : decide (pow = [48]) = false := by simp [hp]
  rw [this, if_neg hp]
  simp only [callK_ret, getTup_t, opt_s, uncons_c, getInt_i, getStr_s, getBool_b, isNilL_n, gB_t, cond_true, cond_false, Bool.not_true, Bool.not_false, getSl_s, getSl_o, getOsl_o]
  rw [small_le (by simp; omega), small_le (by simp; omega)]
  simp only [callK_ret, getTup_t, opt_s, uncons_c, getInt_i, getStr_s, getBool_b, isNilL_n, gB_t, cond_true, cond_false, Bool.not_true, Bool.not_false, getSl_s, getSl_o, getOsl_o]
theorem seg21 {e : Nat} {letter : UInt8} {ok : Bool} {text pow : List UInt8} {a b : Int} {c : List UInt8} (h : text.length + pow.length ≤ 1000000) :
  G171_21 (ev E) (e : Int) (letter.toNat : Int) ok text pow a b c μ = some (XG171_21_0 (e : Int) (realTok text pow letter ok).kind (realTok text pow letter ok).type (realTok text pow letter ok).text μ) := by
 have e68 : decide ((letter.toNat : Int) = 68) = decide (letter = 68) := u8_eq (k := 68) (by omega)
 refine ev_seg ?_
 rw [nfG171_21, e68, seg23 h, opt_s, nfXG171_23_0]
 by_cases hl : letter = 68
 ·cases ok with
  | true =>
   have : realTok text pow letter true = ⟨1, 2, text ++ [68] ++ pow⟩ := by simp [realTok, hl]
   rw [this]
   simp only [hl, decide_true, callK_ret, getTup_t, opt_s, uncons_c, getInt_i, getStr_s, getBool_b, isNilL_n, gB_t, cond_true, cond_false, Bool.not_true, Bool.not_false, getSl_s, getSl_o, getOsl_o]
   rw [small_le (by simp; omega), small_le (by simp; omega)]
   simp only [callK_ret, getTup_t, opt_s, uncons_c, getInt_i, getStr_s, getBool_b, isNilL_n, gB_t, cond_true, cond_false, Bool.not_true, Bool.not_false, getSl_s, getSl_o, getOsl_o]
  | false =>
   simp only [hl, decide_true, callK_ret, getTup_t, opt_s, uncons_c, getInt_i, getStr_s, getBool_b, isNilL_n, gB_t, cond_true, cond_false, Bool.not_true, Bool.not_false, getSl_s, getSl_o, getOsl_o]
   by_cases hp : pow = [48] <;> simp [realTok, hp]
 ·simp only [hl, decide_false, callK_ret, getTup_t, opt_s, uncons_c, getInt_i, getStr_s, getBool_b, isNilL_n, gB_t, cond_true, cond_false, Bool.not_true, Bool.not_false, getSl_s, getSl_o, getOsl_o]
  by_cases hp : pow = [48] <;> simp [realTok, hp, hl]
theorem orZero_len (t : List UInt8) : (orZero t).length ≤ t.length + 1 := by
 unfold orZero
 split <;> simp
theorem seg16 {e : Nat} {letter : UInt8} {ok : Bool} {whole part digits : List UInt8} {a b : Int} {c : List UInt8} (h1 : whole.length ≤ 200000) (h2 : part.length ≤ 200000) (h3 : digits.length ≤ 200001) (h4 : (power digits ok).length ≤ 100) :
  G171_16 (ev E) (e : Int) whole part (letter.toNat : Int) digits ok a b c μ = some (XG171_16_0 (e : Int) (realTok (realText whole part) (power digits ok) letter ok).kind (realTok (realText whole part) (power digits ok) letter ok).type (realTok (realText whole part) (power digits ok) letter ok).text μ) := by
 refine ev_seg ?_
 have k1 := trimL_len whole
 have k2 := trimR_len part
 have k3 := orZero_len (trimL whole)
 have k4 := orZero_len (trimR part)
 rw [nfG171_16, law65l]
 simp only [callK_ret, getTup_t, opt_s, uncons_c, getInt_i, getStr_s, getBool_b, isNilL_n, gB_t, cond_true, cond_false, Bool.not_true, Bool.not_false, getSl_s, getSl_o, getOsl_o]
 rw [small_le (by simp; omega)]
 simp only [callK_ret, getTup_t, opt_s, uncons_c, getInt_i, getStr_s, getBool_b, isNilL_n, gB_t, cond_true, cond_false, Bool.not_true, Bool.not_false, getSl_s, getSl_o, getOsl_o]
 rw [law65r (by omega)]
 simp only [callK_ret, getTup_t, opt_s, uncons_c, getInt_i, getStr_s, getBool_b, isNilL_n, gB_t, cond_true, cond_false, Bool.not_true, Bool.not_false, getSl_s, getSl_o, getOsl_o]
 rw [small_le (by simp; omega)]
 have ht : orZero (trimL whole) ++ [46] ++ orZero (trimR part) = realText whole part := rfl
 have hl : (realText whole part).length ≤ 400003 := by rw [← ht]; simp; omega
 cases ok with
 | true =>
  have hr := atoiN_range digits
  simp only [callK_ret, getTup_t, opt_s, uncons_c, getInt_i, getStr_s, getBool_b, isNilL_n, gB_t, cond_true, cond_false, Bool.not_true, Bool.not_false, getSl_s, getSl_o, getOsl_o, law45 (show digits.length ≤ 1000000 by omega), atoiV_eq, getCv_c, law66 hr.1 hr.2]
  have hp : Lib.itoa (atoiN digits) = power digits true := rfl
  rw [hp, ht, seg21 (by omega), opt_s, nfXG171_21_0]
 | false =>
  simp only [callK_ret, getTup_t, opt_s, uncons_c, getInt_i, getStr_s, getBool_b, isNilL_n, gB_t, cond_true, cond_false, Bool.not_true, Bool.not_false, getSl_s, getSl_o, getOsl_o]
  have hp : ([48] : List UInt8) = power digits false := rfl
  rw [hp, ht, seg21 (by omega), opt_s, nfXG171_21_0]
theorem trimPrefix_len (a b : List UInt8) : (Lib.trimPrefix a b).length ≤ a.length := Lib.trimPrefix_le a b
theorem seg14 {e : Nat} {letter : UInt8} {ok : Bool} {whole part digits : List UInt8} {a b : Int} {c : List UInt8} (h1 : whole.length ≤ 200000) (h2 : part.length ≤ 200000) (h3 : digits.length ≤ 200001) (h4 : (power digits ok).length ≤ 100) :
  G171_14 (ev E) (e : Int) whole part (letter.toNat : Int) digits ok a b c μ = some (stT μ XG171_14_0 XG171_14_1 (real whole part digits letter ok e)) := by
 refine ev_seg ?_
 rw [nfG171_14, law193 (by omega) (by omega)]
 simp only [callK_ret, getTup_t, opt_s, uncons_c, getInt_i, getStr_s, getBool_b, isNilL_n, gB_t, cond_true, cond_false, Bool.not_true, Bool.not_false, getSl_s, getSl_o, getOsl_o, law170, callK_panic, law194]
 have k0 := trimPrefix_len digits [45]
 have e30 : decide ((30 : Int) < (((trimL whole).length + (trimR part).length : Nat) : Int)) = decide (30 < (trimL whole).length + (trimR part).length) := by simp; omega
 have e3 : decide ((3 : Int) < ((Lib.trimPrefix digits [45]).length : Int)) = decide (3 < (Lib.trimPrefix digits [45]).length) := by simp; omega
 rw [e30, e3, seg16 h1 h2 h3 h4, opt_s, nfXG171_16_0]
 unfold real tooLong
 cases decide (30 < (trimL whole).length + (trimR part).length) <;> cases decide (3 < (Lib.trimPrefix digits [45]).length) <;> cases ok <;> rfl
theorem seg12 {e x : Nat} {letter : UInt8} {ok : Bool} {whole part digits : List UInt8} {a b : Int} {c : List UInt8} (h1 : whole.length ≤ 200000) (h2 : part.length ≤ 200000) (h3 : digits.length ≤ 200001) (h4 : (power digits ok).length ≤ 100) :
  G171_12 (ev E) (e : Int) whole part (letter.toNat : Int) digits (x : Int) ok a b c μ = some (stT μ XG171_12_0 XG171_12_1 (real whole part digits letter ok (if ok then x else e))) := by
 refine ev_seg ?_
 rw [nfG171_12]
 cases ok with
 | true =>
  rw [cond_true, seg14 h1 h2 h3 h4, opt_s]
  simp only [if_true]
  cases real whole part digits letter true x with
  | ok q => exact nfXG171_14_0 _ _ _ _ _ _
  | error e => exact nfXG171_14_1 _ _ _
 | false =>
  rw [cond_false, seg14 h1 h2 h3 h4, opt_s]
  simp only [Bool.false_eq_true, if_false]
  cases real whole part digits letter false e with
  | ok q => exact nfXG171_14_0 _ _ _ _ _ _
  | error e => exact nfXG171_14_1 _ _ _
theorem rd23_tok {β : Type} {t : Tok} {k : Int → Int → List UInt8 → Option β} : rd23 (.cv t.cv) k = k t.kind t.type t.text := rfl
theorem seg9 (h : Sc μ l i s fx r) (hs : s.length ≤ 200000) {whole part : List UInt8} {dot : Bool} {n : Nat} (hn : n ≤ s.length) (h1 : whole.length ≤ 200000) (h2 : part.length ≤ 200000) (h3 : (expo fx s n).2.1.length ≤ 200001) (h4 : (power (expo fx s n).2.1 (expo fx s n).2.2.2).length ≤ 100) :
  G171_9 (ev E) l i (n : Int) whole part dot 0 0 [] μ = some (stT μ XG171_9_0 XG171_9_1 (if !dot && !(expo fx s n).2.2.2 then (match integer whole with | .ok t => .ok (t, n) | .error e => .error e) else real whole part (expo fx s n).2.1 (expo fx s n).1 (expo fx s n).2.2.2 (if (expo fx s n).2.2.2 then (expo fx s n).2.2.1 else n))) := by
 refine ev_seg ?_
 rw [nfG171_9, law191 h hs hn]
 simp only [callK_ret, getTup_t, opt_s, uncons_c, getInt_i, getStr_s, getBool_b, isNilL_n, gB_t, cond_true, cond_false, Bool.not_true, Bool.not_false, getSl_s, getSl_o, getOsl_o]
 rw [seg12 h1 h2 h3 h4, opt_s, law192 (by omega)]
 have hreal : runK E.P (ev E) H171 [] (stT μ XG171_12_0 XG171_12_1 (real whole part (expo fx s n).2.1 (expo fx s n).1 (expo fx s n).2.2.2 (if (expo fx s n).2.2.2 then (expo fx s n).2.2.1 else n))) (segEnd H171 [(4, 0), (5, 0)]) =
   some (stT μ XG171_9_0 XG171_9_1 (real whole part (expo fx s n).2.1 (expo fx s n).1 (expo fx s n).2.2.2 (if (expo fx s n).2.2.2 then (expo fx s n).2.2.1 else n))) := by
  cases real whole part (expo fx s n).2.1 (expo fx s n).1 (expo fx s n).2.2.2 (if (expo fx s n).2.2.2 then (expo fx s n).2.2.1 else n) with
  | ok q => exact nfXG171_12_0 _ _ _ _ _ _
  | error e => exact nfXG171_12_1 _ _ _
 rw [hreal]
 cases dot with
 | true => rfl
 | false =>
  cases (expo fx s n).2.2.2 with
  | true => rfl
  | false =>
   simp only [callK_ret, getTup_t, opt_s, uncons_c, getInt_i, getStr_s, getBool_b, isNilL_n, gB_t, cond_true, cond_false, Bool.not_true, Bool.not_false, getSl_s, getSl_o, getOsl_o, Bool.and_self, if_true]
   cases integer whole with
   | ok t => simp only [outI, callK_ret, rd23_tok]; rfl
   | error e => rfl
theorem power_len (digits : List UInt8) (ok : Bool) : (power digits ok).length ≤ 100 := by
 have hr := atoiN_range digits
 have := Lib.itoa_length_le _ hr.1 hr.2
 unfold power
 split
 ·omega
 ·simp
theorem law171 (h : Sc μ l i s fx r) (hs : s.length ≤ 200000) {n : Nat} (hn : n ≤ s.length) :
  (ev E).call 171 [LV.cv (CV.ref l i 0), LV.int .i64 (n : Int)] μ = some (outT μ (number fx s n)) := by
 have e46 : ∀ c : UInt8, decide ((c.toNat : Int) = 46) = decide (c = 46) := fun c => u8_eq (k := 46) (by omega)
 have hle := runE_le (fx := fx) (p := isDig) hn
 have hle2 := atE_le (fx := fx) hle
 have hle3 := runE_le (fx := fx) (p := isDig) hle2
 have hr1 := runC_len (fx := fx) (s := s) (p := isDig) (n := n)
 have hr2 := runC_len (fx := fx) (s := s) (p := isDig) (n := atE fx s (runE fx isDig s n))
 have hx : ∀ m, (expo fx s m).2.1.length ≤ 200001 := by
  intro m
  unfold expo
  split
  ·have := runC_len (fx := fx) (s := s) (p := isDig) (n := expStart fx s m)
   simp only [List.length_append, expSign, expDigits]
   split <;> simp <;> omega
  ·simp
 have fin : ∀ q : Except Int (Tok × Nat), runK E.P (ev E) H171 [] (stT μ XG171_9_0 XG171_9_1 q) (bodyEnd E.P (resOf E.P 171)) = some (outT μ q) := by
  intro q
  cases q with
  | ok q => exact nfXG171_9_0 _ _ _ _ _ _
  | error e =>
   simp only [stT]
   rw [nfXG171_9_1]
   rfl
 have hend : numEnd fx s n ≤ s.length := by unfold numEnd; split <;> assumption
 have key : ∀ (dot : Bool), numDot fx s n = dot → (opt (G171_9 (ev E) l i (numEnd fx s n : Nat) (numWhole fx s n) (numPart fx s n) dot 0 0 [] μ) fun st => runK E.P (ev E) H171 [] st (bodyEnd E.P (resOf E.P 171))) = some (outT μ (number fx s n)) := by
  intro dot hd
  rw [seg9 h hs hend (by unfold numWhole; omega) (by unfold numPart; split <;> first | omega | simp) (hx _) (power_len _ _), opt_s, fin]
  unfold number
  rw [hd]
 refine ev_call ?_
 rw [nf171, law169 h (by omega) (fun c => law132) hn]
 simp only [callK_ret, getTup_t, opt_s, uncons_c, getInt_i, getStr_s, getBool_b, isNilL_n, gB_t, cond_true, cond_false, Bool.not_true, Bool.not_false, getSl_s, getSl_o, getOsl_o]
 rw [law168 h (by omega) hle]
 simp only [callK_ret, getTup_t, opt_s, uncons_c, getInt_i, getStr_s, getBool_b, isNilL_n, gB_t, cond_true, cond_false, Bool.not_true, Bool.not_false, getSl_s, getSl_o, getOsl_o, e46]
 have hw : runC fx isDig s n = numWhole fx s n := rfl
 by_cases hc : atC fx s (runE fx isDig s n) = 46
 ·have hc' : decide (atC fx s (runE fx isDig s n) = 46) = true := by simp [hc]
  rw [hc', cond_true, law172 h hs hle]
  simp only [callK_ret, getTup_t, opt_s, uncons_c, getInt_i, getStr_s, getBool_b, isNilL_n, gB_t, cond_true, cond_false, Bool.not_true, Bool.not_false, getSl_s, getSl_o, getOsl_o]
  rw [law169 h (by omega) (fun c => law132) hle2]
  simp only [callK_ret, getTup_t, opt_s, uncons_c, getInt_i, getStr_s, getBool_b, isNilL_n, gB_t, cond_true, cond_false, Bool.not_true, Bool.not_false, getSl_s, getSl_o, getOsl_o]
  cases hdo : (dotted fx s (runE fx isDig s n)).2.2 with
  | false =>
   have hd : numDot fx s n = true := by simp [numDot, hc, hdo]
   have := key true hd
   simp only [numEnd, numPart, hd, if_true] at this
   simp only [callK_ret, getTup_t, opt_s, uncons_c, getInt_i, getStr_s, getBool_b, isNilL_n, gB_t, cond_true, cond_false, Bool.not_true, Bool.not_false, getSl_s, getSl_o, getOsl_o, hw]
   exact this
  | true =>
   simp only [callK_ret, getTup_t, opt_s, uncons_c, getInt_i, getStr_s, getBool_b, isNilL_n, gB_t, cond_true, cond_false, Bool.not_true, Bool.not_false, getSl_s, getSl_o, getOsl_o, hw]
   by_cases hz : numWhole fx s n = []
   ·have hd : numDot fx s n = true := by simp [numDot, hc, hz]
    have := key true hd
    simp only [numEnd, numPart, hd, if_true] at this
    have h5 : decide (numWhole fx s n = []) = true := by simp [hz]
    rw [h5, cond_true]
    exact this
   ·have hd : numDot fx s n = false := by simp [numDot, hdo, hz]
    have := key false hd
    simp only [numEnd, numPart, hd, Bool.false_eq_true, if_false] at this
    have h5 : decide (numWhole fx s n = []) = false := by simp [hz]
    rw [h5, cond_false]
    exact this
 ·have hc' : decide (atC fx s (runE fx isDig s n) = 46) = false := by simp [hc]
  have hd : numDot fx s n = false := by simp [numDot, hc]
  have := key false hd
  simp only [numEnd, numPart, hd, Bool.false_eq_true, if_false] at this
  rw [hc', cond_false, hw]
  exact this
end
end Go.Abs

set_option linter.unusedVariables false
set_option linter.unusedSimpArgs false
namespace Go.Abs
open Go
def quotL (q : UInt8) : List UInt8 → Option (List UInt8 × Nat)
 | [] => none
 | [c] => if c = q then some ([], 1) else none
 | c :: d :: r => if c = q then (if d = q then (quotL q r).map (fun x => (q :: x.1, x.2 + 2)) else some ([], 1)) else (quotL q (d :: r)).map fun x => (c :: x.1, x.2 + 1)
theorem quotL_ne {q c : UInt8} (h : c ≠ q) (r : List UInt8) : quotL q (c :: r) = (quotL q r).map fun x => (c :: x.1, x.2 + 1) := by
 cases r with
 | nil => simp [quotL, h]
 | cons d r => rw [quotL, if_neg h]
theorem quotL_two {q : UInt8} (r : List UInt8) : quotL q (q :: q :: r) = (quotL q r).map fun x => (q :: x.1, x.2 + 2) := by
 rw [quotL, if_pos rfl, if_pos rfl]
theorem quotL_end {q : UInt8} {r : List UInt8} (h : ∀ d t, r = d :: t → d ≠ q) : quotL q (q :: r) = some ([], 1) := by
 cases r with
 | nil => simp [quotL]
 | cons d r => rw [quotL, if_pos rfl, if_neg (h d r rfl)]
theorem quotL_app {q : UInt8} : ∀ (a l : List UInt8), (∀ b ∈ a, b ≠ q) → quotL q (a ++ l) = (quotL q l).map fun x => (a ++ x.1, a.length + x.2)
 | [], l, _ => by
  simp only [List.nil_append, List.length_nil, Nat.zero_add]
  cases quotL q l <;> rfl
 | c :: a, l, h => by
  rw [List.cons_append, quotL_ne (h c List.mem_cons_self), quotL_app a l (fun b hb => h b (List.mem_cons_of_mem _ hb))]
  cases quotL q l with
  | none => rfl
  | some x => simp only [Option.map_some, List.cons_append, List.length_cons]; congr 2; omega
theorem quotL_none {q : UInt8} : ∀ (l : List UInt8), (∀ b ∈ l, b ≠ q) → quotL q l = none
 | [], _ => rfl
 | c :: r, h => by rw [quotL_ne (h c List.mem_cons_self), quotL_none r (fun b hb => h b (List.mem_cons_of_mem _ hb))]; rfl
theorem quotL_len {q : UInt8} : ∀ (n : Nat) (l : List UInt8), l.length ≤ n → ∀ t k, quotL q l = some (t, k) → 1 ≤ k ∧ k ≤ l.length ∧ t.length + 1 ≤ k
 | 0, l, hn, t, k, h => by
  have : l = [] := List.eq_nil_of_length_eq_zero (by omega)
  subst this
  cases h
 | n + 1, [], hn, t, k, h => by cases h
 | n + 1, c :: r, hn, t, k, h => by
  simp only [List.length_cons] at hn ⊢
  by_cases hc : c = q
  ·subst hc
   cases r with
   | nil =>
    rw [quotL_end (by intro d t h; cases h)] at h
    cases h
    simp
   | cons d r =>
    by_cases hd : d = c
    ·subst hd
     rw [quotL_two] at h
     cases hq : quotL d r with
     | none => rw [hq] at h; cases h
     | some x =>
      rw [hq] at h
      cases h
      simp only [List.length_cons] at hn ⊢
      have := quotL_len n r (by omega) x.1 x.2 hq
      omega
    ·rw [quotL_end (by intro e t h; cases h; exact hd)] at h
     cases h
     simp
  ·rw [quotL_ne hc] at h
   cases hq : quotL q r with
   | none => rw [hq] at h; cases h
   | some x =>
    rw [hq] at h
    cases h
    have := quotL_len n r (by omega) x.1 x.2 hq
    simp only [List.length_cons]
    omega
theorem index_split (l : List UInt8) (q : UInt8) : (Lib.index l [q] = -1 ∧ ∀ b ∈ l, b ≠ q) ∨ (∃ a r, l = a ++ q :: r ∧ (∀ b ∈ a, b ≠ q) ∧ Lib.index l [q] = (a.length : Int)) := by
 induction l with
 | nil => exact Or.inl ⟨rfl, by simp⟩
 | cons c l ih =>
  by_cases hc : c = q
  ·subst hc
   refine Or.inr ⟨[], l, rfl, by simp, ?_⟩
   simp [Lib.index, List.isPrefixOf]
  ·have hp : ([q].isPrefixOf (c :: l)) = false := by
    have : (q == c) = false := by simpa using fun h : q = c => hc h.symm
    simp [List.isPrefixOf, this]
   rcases ih with ⟨h1, h2⟩ | ⟨a, r, h1, h2, h3⟩
   ·refine Or.inl ⟨?_, ?_⟩
    ·simp only [Lib.index, hp, h1]; rfl
    ·intro b hb
     rcases List.mem_cons.1 hb with rfl | hb
     ·exact hc
     ·exact h2 b hb
   ·refine Or.inr ⟨c :: a, r, by rw [h1]; rfl, ?_, ?_⟩
    ·intro b hb
     rcases List.mem_cons.1 hb with rfl | hb
     ·exact hc
     ·exact h2 b hb
    ·have hne : (Lib.index l [q] == -1) = false := by rw [h3]; simp; try omega
     simp only [Lib.index, hp, hne, h3]
     simp
def dbl : List UInt8 → List UInt8
 | [] => []
 | c :: r => if c = 39 then 39 :: 39 :: dbl r else c :: dbl r
theorem dbl_app : ∀ (a l : List UInt8), (∀ b ∈ a, b ≠ 39) → dbl (a ++ l) = a ++ dbl l
 | [], l, _ => rfl
 | c :: a, l, h => by
  rw [List.cons_append, dbl, if_neg (h c List.mem_cons_self), dbl_app a l (fun b hb => h b (List.mem_cons_of_mem _ hb))]
  rfl
theorem dbl_len : ∀ (l : List UInt8), (dbl l).length ≤ 2 * l.length
 | [] => Nat.le_refl _
 | c :: r => by
  have := dbl_len r
  unfold dbl
  split <;> simp only [List.length_cons] <;> omega
theorem replaceK_dbl : ∀ (k : Nat) (l : List UInt8), Lib.count l [39] ≤ k → Lib.replaceK [39] [39, 39] k l = dbl l
 | 0, l, h => by
  rcases index_split l 39 with ⟨h1, h2⟩ | ⟨a, r, h1, h2, h3⟩
  ·have := dbl_app l [] h2
   simp only [List.append_nil, dbl] at this
   rw [this]; rfl
  ·exfalso
   have := Lib.count_hit (sub := [39]) (by simp) h3
   omega
 | k + 1, l, h => by
  rcases index_split l 39 with ⟨h1, h2⟩ | ⟨a, r, h1, h2, h3⟩
  ·have := dbl_app l [] h2
   simp only [List.append_nil, dbl] at this
   rw [this, Lib.replaceK, h1]; rfl
  ·have hc := Lib.count_hit (sub := [39]) (by simp) h3
   rw [Lib.replaceK_hit _ _ _ _ _ h3]
   have hd : l.drop (a.length + ([39] : List UInt8).length) = r := by
    rw [h1, List.length_singleton, ← List.drop_drop, List.drop_left' rfl]; rfl
   have ht : l.take a.length = a := by rw [h1, List.take_left' rfl]
   have hc' : Lib.count l [39] = 1 + Lib.count r [39] := by rw [hc, hd]
   rw [hd, ht, replaceK_dbl k r (by omega), h1, dbl_app a _ h2, dbl, if_pos rfl]
   simp
theorem replaceAll_dbl (l : List UInt8) : Lib.replaceAll l [39] [39, 39] = dbl l := by
 unfold Lib.replaceAll Lib.replace Lib.replaceNum
 rw [if_neg (by decide), if_pos (Or.inl (by decide))]
 exact replaceK_dbl _ _ (Nat.le_refl _)
end Go.Abs

set_option linter.unusedVariables false
set_option linter.unusedSimpArgs false
set_option maxRecDepth 100000
namespace Go.Abs
open Go Go.Proofs
def nilL : LV := .cv (.v (.slice none 0 0))
def toksCV (l : List Tok) : List CV := l.map Tok.cv
def intsCV (l : List Nat) : List CV := l.map fun (n : Nat) => CV.int .i64 (n : Int)
def tL (l : List Tok) : LV := if l = [] then nilL else .osl (toksCV l)
def kL (l : List Nat) : LV := if l = [] then nilL else .osl (intsCV l)
def scO (s : List UInt8) (fx : Bool) (out : List Tok) (kept : List Nat) : Ob := .cells [LV.str s, LV.bool fx, tL out, kL kept]
def scM (b : Mu) (s : List UInt8) (fx : Bool) (out : List Tok) (kept : List Nat) : Mu := b ++ [[scO s fx out kept]]
theorem top_ob (b : Mu) (o : Ob) : muOb (b ++ [[o]]) b.length 0 = o := by simp [muOb]
theorem top_set (b : Mu) (o o' : Ob) : muSet (b ++ [[o]]) b.length 0 o' = b ++ [[o']] := by simp [muSet]
section
variable {b : Mu} {s : List UInt8} {fx : Bool} {out : List Tok} {kept : List Nat}
theorem sc_of : Sc (scM b s fx out kept) b.length 0 s fx [tL out, kL kept] := top_ob _ _
theorem osl_tL : getOsl (tL out) = some (toksCV out) := by unfold tL; split <;> rename_i h <;> (try subst h) <;> rfl
theorem osl_kL : getOsl (kL kept) = some (intsCV kept) := by unfold kL; split <;> rename_i h <;> (try subst h) <;> rfl
theorem sl_tL : getSl (strip (tL out)) = some (toksCV out) := by unfold tL; split <;> rename_i h <;> (try subst h) <;> rfl
theorem take3 {a b c d : LV} : obTake E.P 38 (.cells [a, b, c, d]) 3 = some (d, .cells [a, b, c, strip d]) := by kernel_rfl
theorem write3 {a b c d : LV} {l : List CV} : obWrite E.P 38 (.cells [a, b, c, d]) 3 (LV.osl l) = some (.cells [a, b, c, .osl l]) := by kernel_rfl
theorem take2 {a b c d : LV} : obTake E.P 32 (.cells [a, b, c, d]) 2 = some (c, .cells [a, b, strip c, d]) := by kernel_rfl
theorem write2 {a b c d : LV} {l : List CV} : obWrite E.P 32 (.cells [a, b, c, d]) 2 (LV.osl l) = some (.cells [a, b, .osl l, d]) := by kernel_rfl
theorem read2 {a b c d : LV} : obRead E.P 32 (.cells [a, b, c, d]) 2 = some (strip c) := by kernel_rfl
theorem allSz_ints : ∀ (l : List Nat), allSz 1 (intsCV l) = true
 | [] => rfl
 | a :: l => by
  have e : intsCV (a :: l) = CV.int .i64 (a : Int) :: intsCV l := rfl
  rw [e]
  simp only [allSz]
  have : elemOK 1 (CV.int .i64 (a : Int)) = true := rfl
  rw [this]
  exact allSz_ints l
theorem allSz_toks : ∀ (l : List Tok), allSz 3 (toksCV l) = true
 | [] => rfl
 | a :: l => by
  have e : toksCV (a :: l) = a.cv :: toksCV l := rfl
  rw [e]
  simp only [allSz]
  have : elemOK 3 a.cv = true := rfl
  rw [this]
  exact allSz_toks l
theorem belowL_ints {n : Nat} : ∀ (l : List Nat), belowL n (intsCV l) = true
 | [] => rfl
 | a :: l => by
  have e : intsCV (a :: l) = CV.int .i64 (a : Int) :: intsCV l := rfl
  rw [e]
  simp only [belowL]
  have : below n (CV.int .i64 (a : Int)) = true := rfl
  rw [this]
  exact belowL_ints l
theorem belowL_toks {n : Nat} : ∀ (l : List Tok), belowL n (toksCV l) = true
 | [] => rfl
 | a :: l => by
  have e : toksCV (a :: l) = a.cv :: toksCV l := rfl
  rw [e]
  simp only [belowL]
  have : below n a.cv = true := rfl
  rw [this]
  exact belowL_toks l
theorem appOK_ints {a c : List Nat} (h : a.length + c.length ≤ 1000000) : appOK 1 (intsCV a) (intsCV c) = true := by
 unfold appOK
 rw [allSz_ints, allSz_ints]
 simp [small, intsCV]
 omega
theorem appOK_toks {a c : List Tok} (h : a.length + c.length ≤ 1000000) : appOK 3 (toksCV a) (toksCV c) = true := by
 unfold appOK
 rw [allSz_toks, allSz_toks]
 simp [small, toksCV]
 omega
theorem kL_app {n : Nat} : LV.osl (intsCV kept ++ [CV.int .i64 (n : Int)]) = kL (kept ++ [n]) := by
 unfold kL
 rw [if_neg (by simp)]
 simp [intsCV]
theorem tL_app {t : Tok} : LV.osl (toksCV out ++ [t.cv]) = tL (out ++ [t]) := by
 unfold tL
 rw [if_neg (by simp)]
 simp [toksCV]
theorem loop189 (hs : s.length ≤ 200000) : ∀ (k a e : Nat) (kept : List Nat), a + k = e → e ≤ 300000 → kept.length + k ≤ 600000 →
  L189_1 (ev E) b.length 0 (e : Int) (a : Int) (scM b s fx out kept) = some (XL189_1_0 (scM b s fx out (kept ++ List.range' a k))) := by
 intro k
 induction k with
 | zero =>
  intro a e kept hk he hq
  refine ev_loop ?_
  rw [nfL189_1]
  have h1 : decide ((a : Int) < (e : Int)) = false := by simp; omega
  rw [h1, cond_false]
  simp
 | succ k ih =>
  intro a e kept hk he hq
  refine ev_loop ?_
  rw [nfL189_1]
  have h1 : decide ((a : Int) < (e : Int)) = true := by simp; omega
  rw [h1, cond_true]
  unfold scM
  rw [top_ob]
  unfold scO
  rw [take3, opt_s, osl_kL, opt_s]
  have ha : [CV.int .i64 (a : Int)] = intsCV [a] := rfl
  rw [ha, appOK_ints (by simp; omega), gB_t]
  have hb : belowL (b.length + 1) (intsCV kept ++ intsCV [a]) = true := by
   have : intsCV kept ++ intsCV [a] = intsCV (kept ++ [a]) := by simp [intsCV]
   rw [this]; exact belowL_ints _
  rw [hb, gB_t, top_set, top_ob, write3, opt_s, top_set, wrap64 (by omega) (by omega)]
  have := ih (a + 1) e (kept ++ [a]) (by omega) he (by simp; omega)
  unfold scM scO at this
  rw [← ha, kL_app]
  have e1 : ((a + 1 : Nat) : Int) = (a : Int) + 1 := by omega
  rw [← e1, this]
  simp [List.range'_succ]
theorem law189 (hs : s.length ≤ 200000) {a e : Nat} (h : a ≤ e) (he : e ≤ 300000) (hk : kept.length + (e - a) ≤ 600000) :
  (ev E).call 189 [LV.cv (CV.ref b.length 0 0), LV.int .i64 (a : Int), LV.int .i64 (e : Int)] (scM b s fx out kept) = some (.ret (.ltup []) (scM b s fx out (kept ++ List.range' a (e - a)))) := by
 refine ev_call ?_
 rw [nf189, loop189 hs (e - a) a e kept (by omega) he hk, opt_s, nfXL189_1_0]
def charsT (t : List UInt8) : List UInt8 := [39] ++ dbl t ++ [39]
theorem law86 {t : List UInt8} {μ : Mu} (h : t.length ≤ 200000) : (ev E).call 86 [LV.str t] μ = some (.ret (.cv (Tok.cv ⟨1, 6, charsT t⟩)) μ) := by
 refine ev_call ?_
 have hd := dbl_len t
 rw [nf86, law84 (by omega) (by simp) (by simp), callK_ret, getStr_s, opt_s, replaceAll_dbl, small_le (by simp; omega), gB_t, small_le (by simp; omega), gB_t]
 rfl
theorem cutA_ok {α : Type} {l : List α} {a e : Nat} (h1 : a ≤ e) (h2 : e ≤ l.length) : cutA l (a : Int) (e : Int) = some ((l.drop a).take (e - a)) := by
 unfold cutA
 have : (decide ((0 : Int) ≤ (a : Int)) && decide ((a : Int) ≤ (e : Int)) && decide ((e : Int) ≤ (l.length : Int))) = true := by simp; omega
 rw [this]
 have e1 : ((a : Int)).toNat = a := by omega
 have e2 : ((e : Int) - (a : Int)).toNat = e - a := by omega
 simp only [e1, e2]
theorem cutA_end {α : Type} {l : List α} {a : Nat} (h1 : a ≤ l.length) : cutA l (a : Int) (l.length : Int) = some (l.drop a) := by
 rw [cutA_ok h1 (Nat.le_refl _)]
 congr 1
 apply List.take_of_length_le
 simp
noncomputable def endQ (b : Mu) (q : Int) (from_ i : Nat) (t : List UInt8) (μ : Mu) : Option (List UInt8 × Nat) → St
 | none => XL173_6_1 (wrong 7) μ
 | some (x, k) => XL173_6_0 b.length 0 ((i + k : Nat) : Int) (from_ : Int) (t ++ x) 0 0 [] μ
theorem hasPrefix_one {c : UInt8} (l : List UInt8) : Lib.hasPrefix l [c] = (match l with | [] => false | d :: _ => decide (d = c)) := by
 cases l with
 | nil => simp [Lib.hasPrefix]
 | cons d r =>
  by_cases h : d = c
  ·subst h; simp [Lib.hasPrefix, List.isPrefixOf]
  ·have : (c == d) = false := by simpa using fun e : c = d => h e.symm
   simp [Lib.hasPrefix, List.isPrefixOf, h, this]
noncomputable def endP (b : Mu) (i : Int) (q : UInt8) (from_ : Int) (t : List UInt8) (μ : Mu) : List UInt8 → St
 | [] => XG173_9_0 b.length 0 i [q] from_ t 0 0 [] μ
 | d :: _ => if d = q then XG173_9_1 b.length 0 i [q] from_ (t ++ [q]) 0 0 [] μ else XG173_9_0 b.length 0 i [q] from_ t 0 0 [] μ
theorem loop173 (hs : s.length ≤ 200000) {q : UInt8} {from_ : Nat} : ∀ (k i : Nat) (t : List UInt8), s.length - i ≤ k → i ≤ s.length → t.length ≤ i →
  L173_6 (ev E) b.length 0 (i : Int) [q] (from_ : Int) t 0 0 [] (scM b s fx out kept) = some (endQ b 0 from_ i t (scM b s fx out kept) (quotL q (s.drop i))) := by
 intro k
 induction k with
 | zero =>
  intro i t hk hi ht
  refine ev_loop ?_
  have h := sc_of (b := b) (s := s) (fx := fx) (out := out) (kept := kept)
  have hd : s.drop i = [] := List.drop_eq_nil_of_le (by omega)
  rw [nfL173_6, h, rd_str, strip_str, opt_s, getStr_s, opt_s, cutA_end hi, opt_s, hd, law145 (by simp)]
  simp only [callK_ret, getTup_t, opt_s, uncons_c, getInt_i, getStr_s, getBool_b, isNilL_n, gB_t, cond_true, cond_false, Bool.not_true, Bool.not_false, getSl_s, getSl_o, getOsl_o]
  have hx : Lib.index [] [q] = -1 := rfl
  have hx2 : decide ((-1 : Int) < 0) = true := by decide
  rw [hx, hx2, cond_true, law170, callK_panic]
  rfl
 | succ k ih =>
  intro i t hk hi ht
  refine ev_loop ?_
  have h := sc_of (b := b) (s := s) (fx := fx) (out := out) (kept := kept)
  rw [nfL173_6, h, rd_str, strip_str, opt_s, getStr_s, opt_s, cutA_end hi, opt_s, law145 (by simp; omega)]
  simp only [callK_ret, getTup_t, opt_s, uncons_c, getInt_i, getStr_s, getBool_b, isNilL_n, gB_t, cond_true, cond_false, Bool.not_true, Bool.not_false, getSl_s, getSl_o, getOsl_o]
  rcases index_split (s.drop i) q with ⟨h1, h2⟩ | ⟨a, r, h1, h2, h3⟩
  ·have hx2 : decide ((-1 : Int) < 0) = true := by decide
   rw [h1, hx2, cond_true, law170, callK_panic, quotL_none _ h2]
   rfl
  ·have hx2 : decide ((a.length : Int) < 0) = false := by simp
   have hlen : a.length + 1 + r.length = s.length - i := by
    have : (s.drop i).length = (a ++ q :: r).length := by rw [h1]
    simp only [List.length_drop, List.length_append, List.length_cons] at this
    omega
   have hr : s.drop (i + (a.length + 1)) = r := by
    rw [← List.drop_drop, h1]
    have : a ++ q :: r = (a ++ [q]) ++ r := by simp
    rw [this, List.drop_left' (by simp)]
   have hta : (s.drop i).take a.length = a := by rw [h1, List.take_left' rfl]
   rw [h3, hx2, cond_false]
   have hG : G173_9 (ev E) b.length 0 (i : Int) [q] (from_ : Int) t (a.length : Int) 0 0 [] (scM b s fx out kept) =
     some (endP b ((i + (a.length + 1) : Nat) : Int) q (from_ : Int) (t ++ a) (scM b s fx out kept) r) := by
    refine ev_seg ?_
    have w1 : IntKind.wrap .i64 ((i : Int) + (a.length : Int)) = ((i + a.length : Nat) : Int) := by rw [wrap64 (by omega) (by omega)]; omega
    have w2 : IntKind.wrap .i64 ((a.length : Int) + 1) = ((a.length + 1 : Nat) : Int) := by rw [wrap64 (by omega) (by omega)]; omega
    have w3 : IntKind.wrap .i64 ((i : Int) + ((a.length + 1 : Nat) : Int)) = ((i + (a.length + 1) : Nat) : Int) := by rw [wrap64 (by omega) (by omega)]; omega
    rw [nfG173_9, h, rd_str, strip_str, w1, w2, w3]
    simp only [opt_s, getStr_s]
    rw [cutA_ok (by omega) (by omega), opt_s]
    have e2 : i + a.length - i = a.length := by omega
    rw [e2, hta, small_le (by omega), gB_t, cutA_end (by omega), opt_s, hr, law195, callK_ret, getBool_b, opt_s, hasPrefix_one]
    have hsm : small ((t ++ a).length + [q].length) = true := small_le (by simp; omega)
    cases r with
    | nil => simp only [Bool.not_false, cond_true, endP]
    | cons d r' =>
     by_cases hdq : d = q
     ·subst hdq
      simp only [decide_true, Bool.not_true, cond_false, endP, if_true]
      rw [hsm, gB_t]
     ·simp only [hdq, decide_false, Bool.not_false, cond_true, endP, if_false]
   rw [hG, opt_s, h1, quotL_app a _ h2]
   cases r with
   | nil =>
    rw [quotL_end (by intro d t h; cases h)]
    simp only [endP]
    rw [nfXG173_9_0]
    simp [endQ]
   | cons d r' =>
    by_cases hdq : d = q
    ·subst hdq
     simp only [endP, if_true]
     simp only [List.length_cons] at hlen
     rw [quotL_two, nfXG173_9_1, wrap64 (by omega) (by omega)]
     have e1 : ((i + (a.length + 1) : Nat) : Int) + 1 = ((i + (a.length + 2) : Nat) : Int) := by omega
     have hr2 : s.drop (i + (a.length + 2)) = r' := by
      have : i + (a.length + 2) = (i + (a.length + 1)) + 1 := by omega
      rw [this, ← List.drop_drop, hr]; rfl
     rw [e1, ih (i + (a.length + 2)) _ (by omega) (by omega) (by simp; omega), hr2]
     cases quotL d r' with
     | none => rfl
     | some x =>
      simp only [endQ, Option.map_some]
      congr 2
      ·omega
      ·simp
    ·simp only [endP, hdq, if_false]
     rw [quotL_end (by intro e t h; cases h; exact hdq), nfXG173_9_0]
     simp [endQ]
def quoted (s : List UInt8) (n : Nat) : Except Int (Tok × Nat) :=
 match quotL ((s[n]?).getD 0) (s.drop (n + 1)) with
 | none => .error 7
 | some (t, k) => if 60 < t.length then .error 8 else .ok (⟨1, 6, charsT t⟩, n + 1 + k)
def outK (b : Mu) (s : List UInt8) (fx : Bool) (out : List Tok) (kept : List Nat) : Except Int (Tok × Nat × List Nat) → Out
 | .ok q => .ret (.ltup [.cv q.1.cv, LV.int .i64 (q.2.1 : Int)]) (scM b s fx out (kept ++ q.2.2))
 | .error e => .panic (wrong e) (scM b s fx out kept)
def quotedK (s : List UInt8) (n : Nat) : Except Int (Tok × Nat × List Nat) :=
 match quoted s n with
 | .ok q => .ok (q.1, q.2, List.range' n (q.2 - n))
 | .error e => .error e
theorem law173 (hs : s.length ≤ 200000) (hk : kept.length ≤ 200000) {n : Nat} (hn : n < s.length) :
  (ev E).call 173 [LV.cv (CV.ref b.length 0 0), LV.int .i64 (n : Int)] (scM b s fx out kept) = some (outK b s fx out kept (quotedK s n)) := by
 refine ev_call ?_
 have h := sc_of (b := b) (s := s) (fx := fx) (out := out) (kept := kept)
 rw [nf173, h, rd_str, strip_str, opt_s, getStr_s, opt_s, wrap64 (by omega) (by omega)]
 have e1 : (n : Int) + 1 = ((n + 1 : Nat) : Int) := by omega
 have e2 : n + 1 - n = 1 := by omega
 have hd : s.drop n = s[n] :: s.drop (n + 1) := List.drop_eq_getElem_cons hn
 rw [e1, cutA_ok (by omega) (by omega), opt_s, e2, hd]
 have e3 : List.take 1 (s[n] :: s.drop (n + 1)) = [s[n]] := rfl
 rw [e3, loop173 hs s.length (n + 1) [] (by omega) (by omega) (by simp), opt_s]
 unfold quotedK quoted
 rw [List.getElem?_eq_getElem hn, Option.getD_some]
 cases hq : quotL s[n] (s.drop (n + 1)) with
 | none => exact nfXL173_6_1 _ _ _
 | some x =>
  obtain ⟨t, k⟩ := x
  have hl := quotL_len _ _ (Nat.le_refl _) t k hq
  rw [List.length_drop] at hl
  simp only [endQ, List.nil_append]
  rw [nfXL173_6_0]
  by_cases h60 : 60 < t.length
  ·have : decide ((60 : Int) < (t.length : Int)) = true := by simp; omega
   rw [this, cond_true, law170, callK_panic, if_pos h60]
   rfl
  ·have : decide ((60 : Int) < (t.length : Int)) = false := by simp; omega
   rw [this, cond_false, if_neg h60]
   have hG : G173_15 (ev E) b.length 0 ((n + 1 + k : Nat) : Int) (n : Int) t 0 0 [] (scM b s fx out kept) = some (XG173_15_0 ((n + 1 + k : Nat) : Int) 1 6 (charsT t) (scM b s fx out (kept ++ List.range' n (n + 1 + k - n)))) := by
    refine ev_seg ?_
    rw [nfG173_15, law189 hs (by omega) (by omega) (by omega)]
    simp only [callK_ret, getTup_t, opt_s, uncons_c, getInt_i, getStr_s, getBool_b, isNilL_n, gB_t, cond_true, cond_false, Bool.not_true, Bool.not_false, getSl_s, getSl_o, getOsl_o]
    rw [law86 (by omega), callK_ret, rd23_tok]
   rw [hG, opt_s, nfXG173_15_0]
   rfl
end
end Go.Abs

set_option linter.unusedVariables false
set_option linter.unusedSimpArgs false
namespace Go.Proofs.YtfcjjankfjaapaaGreatDoor.Glue
theorem laidOut : laidOutB Tryz.prog = true := by kernel_rfl
end Go.Proofs.YtfcjjankfjaapaaGreatDoor.Glue
namespace Go.Abs.Ga
open Go Go.Proofs
section
variable {P : Program} {t : TypeId} {c : CV}
theorem is_str (ht : isStruct P t = false) (h : if isStruct P t = true then ∃ ys, c = .agg ys ∧ IsL [.str] ys else IsL [.str] [c]) : ∃ s : List UInt8, LV.cv c = LV.str s ∧ True := by
 simp only [ht, Bool.false_eq_true, if_false, IsL, Is] at h
 obtain ⟨y, r, e, ⟨s, rfl, _⟩, _⟩ := h
 injection e with e _
 subst e
 exact ⟨s, rfl, trivial⟩
end
end Go.Abs.Ga

set_option linter.unusedVariables false
set_option linter.unusedSimpArgs false
set_option maxRecDepth 100000
namespace Go.Abs
open Go Go.Proofs
section
variable {b : Mu} {s : List UInt8} {fx : Bool} {out : List Tok} {kept : List Nat}
theorem nf50o (ρ : Rho) (a : List CV) (b : List UInt8) (μ : Mu) : callStep E ρ 50 [LV.osl a, LV.str b] μ =
  callK (ρ.call 94 [LV.osl a, LV.str b] μ) (fun v1 μ2 => opt (getInt .i64 v1) fun n5 => some (.ret (LV.bool (decide ((0 : Int) ≤ n5))) μ2)) (fun v4 μ3 => guardB (below (List.length μ3) v4) (some (.panic v4 μ3))) := by kernel_rfl
theorem nf94o (ρ : Rho) (a : List CV) (b : List UInt8) (μ : Mu) : callStep E ρ 94 [LV.osl a, LV.str b] μ = callStep E ρ 94 [LV.cv (CV.sl a), LV.str b] μ := by kernel_rfl
theorem law94o {l : List (List UInt8)} {x : List UInt8} {μ : Mu} (hl : l.length ≤ 1000000) : (ev E).call 94 [LV.osl (strsCV l), LV.str x] μ = some (.ret (LV.int .i64 (idxS x l 0)) μ) := by
 refine ev_call ?_
 rw [nf94o]
 exact step94 hl
theorem law50o {l : List (List UInt8)} {x : List UInt8} {μ : Mu} (hl : l.length ≤ 1000000) : (ev E).call 50 [LV.osl (strsCV l), LV.str x] μ = some (.ret (LV.bool (l.contains x)) μ) := by
 refine ev_call ?_
 rw [nf50o, law94o hl]
 simp only [callK_ret, getTup_t, opt_s, uncons_c, getInt_i, getStr_s, getBool_b, isNilL_n, gB_t, cond_true, cond_false, Bool.not_true, Bool.not_false, getSl_s, getSl_o, getOsl_o]
 rw [idxS_mem]
def holN (fx : Bool) (s : List UInt8) (n : Nat) : Int := atoiN (runC fx isDig s n)
def holC (fx : Bool) (s : List UInt8) (n : Nat) : UInt8 := atC fx s (runE fx isDig s n)
def holE (fx : Bool) (s : List UInt8) (n : Nat) : Nat := atE fx s (runE fx isDig s n)
def holOK (fx : Bool) (s : List UInt8) (n : Nat) : Prop := (runC fx isDig s n).length ≤ 2 ∧ 1 ≤ holN fx s n ∧ holN fx s n ≤ 60 ∧ (holC fx s n = 72 ∨ holC fx s n = 104)
instance (fx : Bool) (s : List UInt8) (n : Nat) : Decidable (holOK fx s n) := by unfold holOK; infer_instance
def holK (fx : Bool) (s : List UInt8) (n : Nat) : Except Int (Tok × Nat × List Nat) :=
 if s.length < holE fx s n + (holN fx s n).toNat then .error 7
 else .ok (⟨1, 6, charsT ((s.drop (holE fx s n)).take (holN fx s n).toNat)⟩, holE fx s n + (holN fx s n).toNat, List.range' (holE fx s n) (holN fx s n).toNat)
def outH (b : Mu) (s : List UInt8) (fx : Bool) (out : List Tok) (kept : List Nat) : Except Int (Tok × Nat × List Nat) → Out
 | .ok q => .ret (.ltup [.cv q.1.cv, LV.int .i64 (q.2.1 : Int), LV.bool true]) (scM b s fx out (kept ++ q.2.2))
 | .error e => .panic (wrong e) (scM b s fx out kept)
def noTok : Tok := ⟨0, 0, []⟩
theorem law167 (hs : s.length ≤ 200000) (hk : kept.length ≤ 200000) {n : Nat} (hn : n ≤ s.length) :
  (ev E).call 167 [LV.cv (CV.ref b.length 0 0), LV.int .i64 (n : Int)] (scM b s fx out kept) = some (if holOK fx s n then outH b s fx out kept (holK fx s n) else .ret (.ltup [.cv noTok.cv, LV.int .i64 (n : Int), LV.bool false]) (scM b s fx out kept)) := by
 have h := sc_of (b := b) (s := s) (fx := fx) (out := out) (kept := kept)
 have hr := runC_len (fx := fx) (s := s) (p := isDig) (n := n)
 have hle := runE_le (fx := fx) (p := isDig) hn
 have hE : holE fx s n ≤ s.length := atE_le hle
 have e72 : ∀ c : UInt8, decide ((c.toNat : Int) = 72) = decide (c = 72) := fun c => u8_eq (k := 72) (by omega)
 have e104 : ∀ c : UInt8, decide ((c.toNat : Int) = 104) = decide (c = 104) := fun c => u8_eq (k := 104) (by omega)
 refine ev_call ?_
 rw [nf167, law169 h (by omega) (fun c => law132) hn]
 simp only [callK_ret, getTup_t, opt_s, uncons_c, getInt_i, getStr_s, getBool_b, isNilL_n, gB_t, cond_true, cond_false, Bool.not_true, Bool.not_false, getSl_s, getSl_o, getOsl_o]
 rw [law168 h (by omega) hle]
 simp only [callK_ret, getTup_t, opt_s, uncons_c, getInt_i, getStr_s, getBool_b, isNilL_n, gB_t, cond_true, cond_false, Bool.not_true, Bool.not_false, getSl_s, getSl_o, getOsl_o]
 rw [law45 (by omega), atoiV_eq]
 simp only [callK_ret, getTup_t, opt_s, uncons_c, getInt_i, getStr_s, getBool_b, isNilL_n, gB_t, cond_true, cond_false, Bool.not_true, Bool.not_false, getSl_s, getSl_o, getOsl_o, getCv_c, e72, e104]
 have hNd : atoiN (runC fx isDig s n) = holN fx s n := rfl
 have hCd : atC fx s (runE fx isDig s n) = holC fx s n := rfl
 have hEd : atE fx s (runE fx isDig s n) = holE fx s n := rfl
 rw [hNd, hCd, hEd]
 by_cases h1 : 2 < (runC fx isDig s n).length
 ·have : decide ((2 : Int) < ((runC fx isDig s n).length : Int)) = true := by simp; omega
  rw [this, cond_true, if_neg (by unfold holOK; omega)]
  rfl
 ·have e1 : decide ((2 : Int) < ((runC fx isDig s n).length : Int)) = false := by simp; omega
  rw [e1, cond_false]
  by_cases h2 : holN fx s n < 1
  ·have : decide (holN fx s n < 1) = true := by simp [h2]
   rw [this, cond_true, if_neg (by unfold holOK; omega)]
   rfl
  ·have e2 : decide (holN fx s n < 1) = false := by simp [h2]
   rw [e2, cond_false]
   by_cases h3 : 60 < holN fx s n
   ·have : decide (60 < holN fx s n) = true := by simp [h3]
    rw [this, cond_true, if_neg (by unfold holOK; omega)]
    rfl
   ·have e3 : decide (60 < holN fx s n) = false := by simp [h3]
    rw [e3, cond_false]
    obtain ⟨m, hm⟩ : ∃ m : Nat, holN fx s n = (m : Int) := ⟨(holN fx s n).toNat, by omega⟩
    have hG : G167_6 (ev E) b.length 0 (holE fx s n : Nat) (holN fx s n) 0 0 [] (scM b s fx out kept) = some (match holK fx s n with | .ok q => XG167_6_0 (q.2.1 : Int) true q.1.kind q.1.type q.1.text (scM b s fx out (kept ++ q.2.2)) | .error e => XG167_6_1 (wrong e) (scM b s fx out kept)) := by
     refine ev_seg ?_
     have w1 : IntKind.wrap .i64 ((holE fx s n : Int) + (m : Int)) = ((holE fx s n + m : Nat) : Int) := by rw [wrap64 (by omega) (by omega)]; omega
     have e0 : ((m : Int)).toNat = m := by omega
     unfold holK
     rw [nfG167_6, h, rd_str, strip_str, hm, w1, e0]
     simp only [callK_ret, getTup_t, opt_s, uncons_c, getInt_i, getStr_s, getBool_b, isNilL_n, gB_t, cond_true, cond_false, Bool.not_true, Bool.not_false, getSl_s, getSl_o, getOsl_o]
     by_cases h4 : s.length < holE fx s n + m
     ·have : decide ((s.length : Int) < ((holE fx s n + m : Nat) : Int)) = true := by simp; omega
      rw [this, cond_true, law170, callK_panic, if_pos h4]
     ·have : decide ((s.length : Int) < ((holE fx s n + m : Nat) : Int)) = false := by simp; omega
      rw [this, cond_false, if_neg h4]
      have hG8 : G167_8 (ev E) b.length 0 (holE fx s n : Nat) (m : Int) 0 0 [] (scM b s fx out kept) = some (XG167_8_0 ((holE fx s n + m : Nat) : Int) true 1 6 (charsT ((s.drop (holE fx s n)).take m)) (scM b s fx out (kept ++ List.range' (holE fx s n) m))) := by
       refine ev_seg ?_
       have h' := sc_of (b := b) (s := s) (fx := fx) (out := out) (kept := kept ++ List.range' (holE fx s n) m)
       have e5 : holE fx s n + m - holE fx s n = m := by omega
       rw [nfG167_8, w1, law189 hs (by omega) (by omega) (by omega), e5]
       simp only [callK_ret, getTup_t, opt_s, uncons_c, getInt_i, getStr_s, getBool_b, isNilL_n, gB_t, cond_true, cond_false, Bool.not_true, Bool.not_false, getSl_s, getSl_o, getOsl_o]
       rw [h', rd_str, strip_str]
       simp only [callK_ret, getTup_t, opt_s, uncons_c, getInt_i, getStr_s, getBool_b, isNilL_n, gB_t, cond_true, cond_false, Bool.not_true, Bool.not_false, getSl_s, getSl_o, getOsl_o]
       rw [cutA_ok (by omega) (by omega), opt_s, e5, law86 (by simp; omega), callK_ret, rd23_tok]
      rw [hG8, opt_s, nfXG167_8_0]
    have hfin : (opt (G167_6 (ev E) b.length 0 (holE fx s n : Nat) (holN fx s n) 0 0 [] (scM b s fx out kept)) fun st => runK E.P (ev E) H167 [] st (bodyEnd E.P (resOf E.P 167))) = some (outH b s fx out kept (holK fx s n)) := by
     rw [hG, opt_s]
     cases holK fx s n with
     | ok q => exact nfXG167_6_0 _ _ _ _ _ _ _
     | error e => exact nfXG167_6_1 _ _ _
    by_cases h5 : holC fx s n = 72
    ·have : decide (holC fx s n = 72) = true := by simp [h5]
     rw [this, if_pos ⟨by omega, by omega, by omega, Or.inl h5⟩]
     exact hfin
    ·have e5 : decide (holC fx s n = 72) = false := by simp [h5]
     rw [e5]
     by_cases h6 : holC fx s n = 104
     ·have : decide (holC fx s n = 104) = true := by simp [h6]
      rw [this, if_pos ⟨by omega, by omega, by omega, Or.inr h6⟩]
      exact hfin
     ·have e6 : decide (holC fx s n = 104) = false := by simp [h6]
      rw [e6, if_neg (by unfold holOK; intro hh; exact hh.2.2.2.elim h5 h6)]
      rfl
def mayH (fx : Bool) (out : List Tok) : Bool := fx && (match out.getLast? with | none => true | some t => decide (t.kind = 2) && [[40], [44], [47], [61]].contains t.text)
theorem law166 (ho : out.length ≤ 200000) : (ev E).call 166 [LV.cv (CV.ref b.length 0 0)] (scM b s fx out kept) = some (.ret (LV.bool (mayH fx out)) (scM b s fx out kept)) := by
 refine ev_call ?_
 have h := sc_of (b := b) (s := s) (fx := fx) (out := out) (kept := kept)
 rw [nf166, h, rd_bool1, strip_bool]
 simp only [callK_ret, getTup_t, opt_s, uncons_c, getInt_i, getStr_s, getBool_b, isNilL_n, gB_t, cond_true, cond_false, Bool.not_true, Bool.not_false, getSl_s, getSl_o, getOsl_o]
 cases fx with
 | false => rfl
 | true =>
  simp only [callK_ret, getTup_t, opt_s, uncons_c, getInt_i, getStr_s, getBool_b, isNilL_n, gB_t, cond_true, cond_false, Bool.not_true, Bool.not_false, getSl_s, getSl_o, getOsl_o]
  have hlen : (toksCV out).length = out.length := by simp [toksCV]
  have hG : G166_3 (ev E) b.length 0 (scM b s true out kept) = some (XG166_3_0 (mayH true out) (scM b s true out kept)) := by
   refine ev_seg ?_
   rw [nfG166_3, h, read2, opt_s, sl_tL, opt_s, hlen]
   by_cases h0 : out = []
   ·subst h0; rfl
   ·have hpos : 0 < out.length := by
     cases out with
     | nil => exact absurd rfl h0
     | cons a r => simp
    have e0 : decide ((out.length : Int) = 0) = false := by simp [h0]
    rw [e0, cond_false]
    have hg : out.getLast? = some (out.getLast h0) := List.getLast?_eq_some_getLast h0
    have hG5 : G166_5 (ev E) b.length 0 (scM b s true out kept) = some (XG166_5_0 (mayH true out) (scM b s true out kept)) := by
     refine ev_seg ?_
     rw [nfG166_5, h, read2, opt_s, sl_tL, opt_s, opt_s, sl_tL, opt_s, hlen, wrap64 (by omega) (by omega)]
     have e1 : (out.length : Int) - 1 = ((out.length - 1 : Nat) : Int) := by omega
     have e2 : (toksCV out)[out.length - 1]? = some (out.getLast h0).cv := by
      unfold toksCV
      rw [List.getElem?_map, List.getElem?_eq_getElem (by omega), List.getLast_eq_getElem]
      rfl
     rw [e1, slAt_get, e2, opt_s, rd23_tok]
     unfold mayH
     rw [hg]
     simp only [Bool.true_and]
     by_cases hk : (out.getLast h0).kind = 2
     ·have : decide ((out.getLast h0).kind = 2) = true := by simp [hk]
      rw [this, cond_true]
      have e3 : LV.osl [CV.str ([40] : List UInt8), CV.str ([44] : List UInt8), CV.str ([47] : List UInt8), CV.str ([61] : List UInt8)] = LV.osl (strsCV [[40], [44], [47], [61]]) := rfl
      rw [e3, law50o (by simp)]
      simp only [callK_ret, getTup_t, opt_s, uncons_c, getInt_i, getStr_s, getBool_b, isNilL_n, gB_t, cond_true, cond_false, Bool.not_true, Bool.not_false, getSl_s, getSl_o, getOsl_o, Bool.true_and]
     ·have : decide ((out.getLast h0).kind = 2) = false := by simp [hk]
      rw [this, cond_false, Bool.false_and]
    rw [hG5, opt_s, nfXG166_5_0]
  rw [hG, opt_s, nfXG166_3_0]
def spell (t : List UInt8) : Option (List UInt8) :=
 if t = [60, 61] then some [46, 76, 69, 46] else if t = [62, 61] then some [46, 71, 69, 46] else if t = [61, 61] then some [46, 69, 81, 46] else if t = [47, 61] then some [46, 78, 69, 46]
 else if t = [60] then some [46, 76, 84, 46] else if t = [62] then some [46, 71, 84, 46] else none
def opTok (fx : Bool) (s : List UInt8) (n : Nat) : Except Int (Tok × Nat) :=
 let a := atC fx s n
 let m := atE fx s n
 let c := atC fx s m
 match spell [a, c] with
 | some w => .ok (⟨2, 0, w⟩, atE fx s m)
 | none => if c ≠ 0 ∧ signsS.contains [a, c] then .ok (⟨2, 0, [a, c]⟩, atE fx s m)
  else match spell [a] with
   | some w => .ok (⟨2, 0, w⟩, m)
   | none => if signsS.contains [a] then .ok (⟨2, 0, [a]⟩, m) else .error 7
end
end Go.Abs

set_option linter.unusedVariables false
set_option linter.unusedSimpArgs false
set_option maxRecDepth 100000
namespace Go.Abs
open Go Go.Proofs
def ksV : List Value := [Value.string ⟨⟨([60, 61] : List UInt8)⟩⟩, Value.string ⟨⟨([62, 61] : List UInt8)⟩⟩, Value.string ⟨⟨([61, 61] : List UInt8)⟩⟩, Value.string ⟨⟨([47, 61] : List UInt8)⟩⟩, Value.string ⟨⟨([60] : List UInt8)⟩⟩, Value.string ⟨⟨([62] : List UInt8)⟩⟩]
def vsV : List CV := [CV.str ([46, 76, 69, 46] : List UInt8), CV.str ([46, 71, 69, 46] : List UInt8), CV.str ([46, 69, 81, 46] : List UInt8), CV.str ([46, 78, 69, 46] : List UInt8), CV.str ([46, 76, 84, 46] : List UInt8), CV.str ([46, 71, 84, 46] : List UInt8)]
section
variable {b : Mu} {s : List UInt8} {fx : Bool} {out : List Tok} {kept : List Nat} {μ : Mu}
theorem law196 : (ev E).call 196 [] μ = some (.ret (LV.cv (CV.mview ksV vsV)) μ) := ev_call (by rw [nf196]; rfl)
theorem map_view {s : S} : mapOf (LV.cv (CV.mview ksV vsV)) s μ = some (ksV, vsV) := rfl
theorem keys_ok : keysOK .string ksV = true := by decide
theorem find_spell (t : List UInt8) : mapFind ksV vsV (Value.string ⟨⟨t⟩⟩) = (spell t).map CV.str := by
 have h : ∀ u : List UInt8, keyEq (Value.string ⟨⟨t⟩⟩) (Value.string ⟨⟨u⟩⟩) = decide (t = u) := fun u => rfl
 simp only [ksV, vsV, mapFind, h]
 unfold spell
 by_cases h1 : t = [60, 61]
 ·simp [h1]
 ·by_cases h2 : t = [62, 61]
  ·simp [h2]
  ·by_cases h3 : t = [61, 61]
   ·simp [h3]
   ·by_cases h4 : t = [47, 61]
    ·simp [h4]
    ·by_cases h5 : t = [60]
     ·simp [h5]
     ·by_cases h6 : t = [62]
      ·simp [h6]
      ·simp [h1, h2, h3, h4, h5, h6]
theorem bytes1 {a : UInt8} : byteCells [CV.int .u8 (a.toNat : Int)] = some [a] := byteCells_bytesCV [a]
theorem bytes2 {a c : UInt8} : byteCells [CV.int .u8 (a.toNat : Int), CV.int .u8 (c.toNat : Int)] = some [a, c] := byteCells_bytesCV [a, c]
theorem seg174_13 {a : UInt8} {m : Nat} {x y : Int} {z : List UInt8} : G174_13 (ev E) (m : Int) [a] x y z μ = some (stT μ XG174_13_0 XG174_13_1 (if signsS.contains [a] then .ok (⟨2, 0, [a]⟩, m) else .error 7)) := by
 refine ev_seg ?_
 rw [nfG174_13, law52]
 simp only [callK_ret, getTup_t, opt_s, uncons_c, getInt_i, getStr_s, getBool_b, isNilL_n, gB_t, cond_true, cond_false, Bool.not_true, Bool.not_false, getSl_s, getSl_o, getOsl_o]
 rw [law50 (l := signsS) (by decide)]
 simp only [callK_ret, getTup_t, opt_s, uncons_c, getInt_i, getStr_s, getBool_b, isNilL_n, gB_t, cond_true, cond_false, Bool.not_true, Bool.not_false, getSl_s, getSl_o, getOsl_o]
 cases signsS.contains [a] with
 | true => rfl
 | false => rw [Bool.not_false, cond_true, law170, callK_panic]; rfl
def one (a : UInt8) (m : Nat) : Except Int (Tok × Nat) := match spell [a] with
   | some w => .ok (⟨2, 0, w⟩, m)
   | none => if signsS.contains [a] then .ok (⟨2, 0, [a]⟩, m) else .error 7
theorem seg174_9 {a : UInt8} {m : Nat} {x y : Int} {z : List UInt8} : G174_9 (ev E) (a.toNat : Int) (m : Int) x y z μ = some (stT μ XG174_9_0 XG174_9_1 (one a m)) := by
 refine ev_seg ?_
 rw [nfG174_9, bytes1, opt_s, law196, callK_ret]
 simp only [callK_ret, getTup_t, opt_s, uncons_c, getInt_i, getStr_s, getBool_b, isNilL_n, gB_t, cond_true, cond_false, Bool.not_true, Bool.not_false, getSl_s, getSl_o, getOsl_o, getCv_c, map_view, keys_ok, find_spell]
 unfold one
 cases spell [a] with
 | some w => rfl
 | none =>
  simp only [Option.map_none, optE]
  rw [seg174_13, opt_s]
  cases signsS.contains [a] with
  | true => exact nfXG174_13_0 _ _ _ _ _ _
  | false => exact nfXG174_13_1 _ _ _
theorem seg174_7 {a c : UInt8} {m e : Nat} {x y : Int} {z : List UInt8} : G174_7 (ev E) (a.toNat : Int) (m : Int) (c.toNat : Int) (e : Int) [a, c] x y z μ = some (stT μ XG174_7_0 XG174_7_1 (if c ≠ 0 ∧ signsS.contains [a, c] then .ok (⟨2, 0, [a, c]⟩, e) else one a m)) := by
 refine ev_seg ?_
 have hone : runK E.P (ev E) H174 [] (stT μ XG174_9_0 XG174_9_1 (one a m)) (segEnd H174 [(4, 0), (5, 0)]) = some (stT μ XG174_7_0 XG174_7_1 (one a m)) := by
  cases one a m with
  | ok q => exact nfXG174_9_0 _ _ _ _ _ _
  | error e => exact nfXG174_9_1 _ _ _
 rw [nfG174_7, int_u8_zero, seg174_9, opt_s, hone, law52]
 simp only [callK_ret, getTup_t, opt_s, uncons_c, getInt_i, getStr_s, getBool_b, isNilL_n, gB_t, cond_true, cond_false, Bool.not_true, Bool.not_false, getSl_s, getSl_o, getOsl_o]
 rw [law50 (l := signsS) (by decide)]
 simp only [callK_ret, getTup_t, opt_s, uncons_c, getInt_i, getStr_s, getBool_b, isNilL_n, gB_t, cond_true, cond_false, Bool.not_true, Bool.not_false, getSl_s, getSl_o, getOsl_o]
 by_cases hc : c = 0
 ·subst hc; rfl
 ·have h1 : (c != 0) = true := by simp [hc]
  rw [h1]
  simp only [callK_ret, getTup_t, opt_s, uncons_c, getInt_i, getStr_s, getBool_b, isNilL_n, gB_t, cond_true, cond_false, Bool.not_true, Bool.not_false, getSl_s, getSl_o, getOsl_o, hc, ne_eq, not_false_eq_true, true_and]
  cases signsS.contains [a, c] with
  | true => rfl
  | false =>
   rw [cond_false, seg174_9, opt_s, hone]
   rfl
theorem law174 {l i : Nat} {r : List LV} (h : Sc μ l i s fx r) (hs : s.length ≤ 200000) {n : Nat} (hn : n ≤ s.length) :
  (ev E).call 174 [LV.cv (CV.ref l i 0), LV.int .i64 (n : Int)] μ = some (outT μ (opTok fx s n)) := by
 have hle := atE_le (fx := fx) hn
 refine ev_call ?_
 rw [nf174, law168 h (by omega) hn]
 simp only [callK_ret, getTup_t, opt_s, uncons_c, getInt_i, getStr_s, getBool_b, isNilL_n, gB_t, cond_true, cond_false, Bool.not_true, Bool.not_false, getSl_s, getSl_o, getOsl_o]
 rw [law168 h (by omega) hle]
 simp only [callK_ret, getTup_t, opt_s, uncons_c, getInt_i, getStr_s, getBool_b, isNilL_n, gB_t, cond_true, cond_false, Bool.not_true, Bool.not_false, getSl_s, getSl_o, getOsl_o]
 rw [bytes2, opt_s, law196, callK_ret]
 simp only [callK_ret, getTup_t, opt_s, uncons_c, getInt_i, getStr_s, getBool_b, isNilL_n, gB_t, cond_true, cond_false, Bool.not_true, Bool.not_false, getSl_s, getSl_o, getOsl_o, getCv_c, map_view, keys_ok, find_spell]
 unfold opTok
 simp only
 rw [seg174_7, opt_s]
 cases spell [atC fx s n, atC fx s (atE fx s n)] with
 | some w => rfl
 | none =>
  simp only [Option.map_none, optE]
  have : ∀ q : Except Int (Tok × Nat), runK E.P (ev E) H174 [] (stT μ XG174_7_0 XG174_7_1 q) (bodyEnd E.P (resOf E.P 174)) = some (outT μ q) := by
   intro q
   cases q with
   | ok q => exact nfXG174_7_0 _ _ _ _ _ _
   | error e => exact nfXG174_7_1 _ _ _
  rw [this]
  rfl
def noK : Except Int (Tok × Nat) → Except Int (Tok × Nat × List Nat)
 | .ok q => .ok (q.1, q.2, [])
 | .error e => .error e
def wordTok (w : List UInt8) : Tok := if w = trueS ∨ w = falseS then ⟨1, 5, w⟩ else ⟨2, 0, w⟩
def tokenN (fx : Bool) (s : List UInt8) (n : Nat) (c : UInt8) : Except Int (Tok × Nat × List Nat) :=
 if isLet c then (if 31 < (runC fx isPar s n).length then .error 4 else .ok (⟨0, 0, up (runC fx isPar s n)⟩, runE fx isPar s n, []))
 else if isDig c || (decide (c = 46) && isDig (atC fx s (n + 1))) then noK (number fx s n)
 else if c = 46 then (if (dotted fx s n).2.2 then .ok (wordTok (dotted fx s n).1, (dotted fx s n).2.1, []) else .error 7)
 else if c = 39 ∨ c = 34 then quotedK s n
 else noK (opTok fx s n)
def tokenK (fx : Bool) (s : List UInt8) (out : List Tok) (n : Nat) : Except Int (Tok × Nat × List Nat) :=
 if mayH fx out && isDig ((s[n]?).getD 0) && decide (holOK fx s n) then holK fx s n else tokenN fx s n ((s[n]?).getD 0)
def stK (b : Mu) (s : List UInt8) (fx : Bool) (out : List Tok) (kept : List Nat) : Except Int (Tok × Nat × List Nat) → St
 | .ok q => XG148_6_0 (q.2.1 : Int) q.1.kind q.1.type q.1.text (scM b s fx out (kept ++ q.2.2))
 | .error e => XG148_6_1 (wrong e) (scM b s fx out kept)
theorem stT_noK {q : Except Int (Tok × Nat)} : stT (scM b s fx out kept) XG148_6_0 XG148_6_1 q = stK b s fx out kept (noK q) := by
 cases q with
 | ok q => simp only [stT, noK, stK, List.append_nil]
 | error e => rfl
theorem seg148_18 {w : List UInt8} {e : Nat} {x y : Int} {z : List UInt8} : (opt (G148_18 (ev E) w (e : Int) x y z μ) fun st => runK E.P (ev E) H148 [.block 0, .seq (codeAt E.P 148 [1, 1, 1, 1, 1])] st (segEnd H148 [(4, 0), (5, 0)])) = some (XG148_6_0 (e : Int) (wordTok w).kind (wordTok w).type (wordTok w).text μ) := by
 have : G148_18 (ev E) w (e : Int) x y z μ = some (XG148_18_0 (e : Int) (wordTok w).kind (wordTok w).type (wordTok w).text μ) := by
  refine ev_seg ?_
  rw [nfG148_18]
  have h3 : ([46, 84, 82, 85, 69, 46] : List UInt8) = trueS := rfl
  have h4 : ([46, 70, 65, 76, 83, 69, 46] : List UInt8) = falseS := rfl
  rw [h3, h4]
  unfold wordTok
  by_cases h1 : w = trueS
  ·simp [h1]
  ·by_cases h2 : w = falseS
   ·simp [h2]
   ·simp [h1, h2]
 rw [this, opt_s, nfXG148_18_0]
theorem seg148_23 (hs : s.length ≤ 200000) {n : Nat} (hn : n ≤ s.length) {x y : Int} {z : List UInt8} : (opt (G148_23 (ev E) b.length 0 (n : Int) x y z (scM b s fx out kept)) fun st => runK E.P (ev E) H148 [] st (segEnd H148 [(4, 0), (5, 0)])) = some (stK b s fx out kept (noK (opTok fx s n))) := by
 have : G148_23 (ev E) b.length 0 (n : Int) x y z (scM b s fx out kept) = some (stT (scM b s fx out kept) XG148_23_0 XG148_23_1 (opTok fx s n)) := by
  refine ev_seg ?_
  rw [nfG148_23, law174 sc_of hs hn]
  cases opTok fx s n with
  | ok q => simp only [outT, callK_ret, getTup_t, opt_s, uncons_c, getInt_i, getStr_s, getBool_b, isNilL_n, gB_t, cond_true, cond_false, Bool.not_true, Bool.not_false, getSl_s, getSl_o, getOsl_o, rd23_tok]; rfl
  | error e => rfl
 rw [this, opt_s, ← stT_noK]
 cases opTok fx s n with
 | ok q => exact nfXG148_23_0 _ _ _ _ _ _
 | error e => exact nfXG148_23_1 _ _ _
theorem seg148_6 (hs : s.length ≤ 200000) (hk : kept.length ≤ 200000) {n : Nat} (hn : n < s.length) {x y : Int} {z : List UInt8} : G148_6 (ev E) b.length 0 (n : Int) (((s[n]?).getD 0).toNat : Int) x y z (scM b s fx out kept) = some (stK b s fx out kept (tokenN fx s n ((s[n]?).getD 0))) := by
 have h := sc_of (b := b) (s := s) (fx := fx) (out := out) (kept := kept)
 have e46 : ∀ c : UInt8, decide ((c.toNat : Int) = 46) = decide (c = 46) := fun c => u8_eq (k := 46) (by omega)
 have e39 : ∀ c : UInt8, decide ((c.toNat : Int) = 39) = decide (c = 39) := fun c => u8_eq (k := 39) (by omega)
 have e34 : ∀ c : UInt8, decide ((c.toNat : Int) = 34) = decide (c = 34) := fun c => u8_eq (k := 34) (by omega)
 have w1 : IntKind.wrap .i64 ((n : Int) + 1) = ((n + 1 : Nat) : Int) := by rw [wrap64 (by omega) (by omega)]; omega
 have hr := runC_len (fx := fx) (s := s) (p := isPar) (n := n)
 obtain ⟨c, hc⟩ : ∃ c, c = (s[n]?).getD 0 := ⟨_, rfl⟩
 rw [← hc]
 have hnum : ∀ {k1 k2 : CV → Mu → Option St}, callK (some (outT (scM b s fx out kept) (number fx s n))) (fun v μ => opt (getTup v) fun xs => opt (uncons xs) fun q => rd23 q.1 fun n1 n2 s3 => opt (uncons q.2) fun q2 => opt (getInt .i64 q2.1) fun n4 => opt (isNilL q2.2) fun u => some (XG148_6_0 n4 n1 n2 s3 μ)) (fun v μ => some (XG148_6_1 v μ)) = some (stK b s fx out kept (noK (number fx s n))) := by
  intro k1 k2
  rw [← stT_noK]
  cases number fx s n with
  | ok q => simp only [outT, callK_ret, getTup_t, opt_s, uncons_c, getInt_i, getStr_s, getBool_b, isNilL_n, gB_t, cond_true, cond_false, Bool.not_true, Bool.not_false, getSl_s, getSl_o, getOsl_o, rd23_tok]; rfl
  | error e => rfl
 have hquo : callK (some (outK b s fx out kept (quotedK s n))) (fun v μ => opt (getTup v) fun xs => opt (uncons xs) fun q => rd23 q.1 fun n1 n2 s3 => opt (uncons q.2) fun q2 => opt (getInt .i64 q2.1) fun n4 => opt (isNilL q2.2) fun u => some (XG148_6_0 n4 n1 n2 s3 μ)) (fun v μ => some (XG148_6_1 v μ)) = some (stK b s fx out kept (quotedK s n)) := by
  cases quotedK s n with
  | ok q => simp only [outK, callK_ret, getTup_t, opt_s, uncons_c, getInt_i, getStr_s, getBool_b, isNilL_n, gB_t, cond_true, cond_false, Bool.not_true, Bool.not_false, getSl_s, getSl_o, getOsl_o, rd23_tok]; rfl
  | error e => rfl
 refine ev_seg ?_
 rw [nfG148_6, w1, law168 h (by omega) (by omega)]
 simp only [callK_ret, getTup_t, opt_s, uncons_c, getInt_i, getStr_s, getBool_b, isNilL_n, gB_t, cond_true, cond_false, Bool.not_true, Bool.not_false, getSl_s, getSl_o, getOsl_o]
 rw [law90]
 simp only [callK_ret, getTup_t, opt_s, uncons_c, getInt_i, getStr_s, getBool_b, isNilL_n, gB_t, cond_true, cond_false, Bool.not_true, Bool.not_false, getSl_s, getSl_o, getOsl_o]
 unfold tokenN
 cases hlet : isLet c with
 | true =>
  rw [cond_true, law169 h (by omega) (fun c => law93) (by omega)]
  simp only [callK_ret, getTup_t, opt_s, uncons_c, getInt_i, getStr_s, getBool_b, isNilL_n, gB_t, cond_true, cond_false, Bool.not_true, Bool.not_false, getSl_s, getSl_o, getOsl_o, if_true]
  by_cases h31 : 31 < (runC fx isPar s n).length
  ·have : decide ((31 : Int) < ((runC fx isPar s n).length : Int)) = true := by simp; omega
   rw [this, cond_true, law170, callK_panic, if_pos h31]
   rfl
  ·have : decide ((31 : Int) < ((runC fx isPar s n).length : Int)) = false := by simp; omega
   rw [this, cond_false, law91 (by omega), callK_ret, getStr_s, opt_s, if_neg h31]
   simp only [stK, List.append_nil]
 | false =>
  rw [cond_false, law132]
  simp only [callK_ret, getTup_t, opt_s, uncons_c, getInt_i, getStr_s, getBool_b, isNilL_n, gB_t, cond_true, cond_false, Bool.not_true, Bool.not_false, getSl_s, getSl_o, getOsl_o, Bool.false_eq_true, if_false, e46, e39, e34]
  have hdot : ∀ (o : Option St), (decide (c = 46) && isDig (atC fx s (n + 1))) = false → isDig c = false →
    cond (decide (c = 46)) (callK ((ev E).call 172 [LV.cv (CV.ref b.length 0 0), LV.int .i64 (n : Int)] (scM b s fx out kept)) (fun v103 μ104 =>
     opt (getTup v103) fun xs107 =>
     opt (uncons xs107) fun q108 =>
     opt (getStr q108.1) fun s109 =>
     opt (uncons q108.2) fun q110 =>
     opt (getInt .i64 q110.1) fun n111 =>
     opt (uncons q110.2) fun q112 =>
     opt (getBool q112.1) fun b113 =>
     opt (isNilL q112.2) fun u114 =>
     cond (!b113) (
     callK ((ev E).call 170 [LV.int .i64 (7 : Int)] μ104) (fun v115 μ116 =>
     opt (getTup v115) fun xs119 =>
     opt (isNilL xs119) fun u120 =>
     opt (G148_18 (ev E) s109 n111 x y z μ116) fun st121 => runK E.P (ev E) H148 [.block 0, .seq (codeAt E.P 148 [1, 1, 1, 1, 1])] st121 (segEnd H148 [(4, 0), (5, 0)])) (fun v118 μ117 =>
     some (XG148_6_1 v118 μ117))) (
     opt (G148_18 (ev E) s109 n111 x y z μ104) fun st122 => runK E.P (ev E) H148 [.block 0, .seq (codeAt E.P 148 [1, 1, 1, 1, 1])] st122 (segEnd H148 [(4, 0), (5, 0)]))) (fun v106 μ105 =>
     some (XG148_6_1 v106 μ105))) o = if c = 46 then some (stK b s fx out kept (if (dotted fx s n).2.2 then .ok (wordTok (dotted fx s n).1, (dotted fx s n).2.1, []) else .error 7)) else o := by
   intro o h1 h2
   by_cases h46 : c = 46
   ·have : decide (c = 46) = true := by simp [h46]
    rw [this, cond_true, law172 h hs (by omega), if_pos h46]
    simp only [callK_ret, getTup_t, opt_s, uncons_c, getInt_i, getStr_s, getBool_b, isNilL_n, gB_t, cond_true, cond_false, Bool.not_true, Bool.not_false, getSl_s, getSl_o, getOsl_o]
    cases hd : (dotted fx s n).2.2 with
    | true =>
     rw [Bool.not_true, cond_false, seg148_18]
     simp only [if_true, stK, List.append_nil]
    | false =>
     rw [Bool.not_false, cond_true, law170, callK_panic]
     rfl
   ·have : decide (c = 46) = false := by simp [h46]
    rw [this, cond_false, if_neg h46]
  have htail : ∀ (o1 : Option St), o1 = some (stK b s fx out kept (quotedK s n)) →
    cond (decide (c = 39)) o1 (cond (decide (c = 34)) o1 (opt (G148_23 (ev E) b.length 0 (n : Int) x y z (scM b s fx out kept)) fun st => runK E.P (ev E) H148 [] st (segEnd H148 [(4, 0), (5, 0)]))) =
     some (stK b s fx out kept (if c = 39 ∨ c = 34 then quotedK s n else noK (opTok fx s n))) := by
   intro o1 ho
   rw [seg148_23 hs (by omega), ho]
   by_cases h1 : c = 39
   ·simp [h1]
   ·by_cases h2 : c = 34
    ·simp [h2]
    ·simp [h1, h2]
  cases hdig : isDig c with
  | true =>
   rw [cond_true, law171 h hs (by omega)]
   simp only [Bool.true_or, if_true]
   exact hnum (k1 := fun _ _ => none) (k2 := fun _ _ => none)
  | false =>
   rw [cond_false]
   by_cases h46 : c = 46
   ·have h1 : decide (c = 46) = true := by simp [h46]
    rw [h1, cond_true, law132]
    simp only [callK_ret, getTup_t, opt_s, uncons_c, getInt_i, getStr_s, getBool_b, isNilL_n, gB_t, cond_true, cond_false, Bool.not_true, Bool.not_false, getSl_s, getSl_o, getOsl_o, Bool.false_or, Bool.true_and]
    cases hd2 : isDig (atC fx s (n + 1)) with
    | true =>
     rw [cond_true, law171 h hs (by omega)]
     simp only [if_true]
     exact hnum (k1 := fun _ _ => none) (k2 := fun _ _ => none)
    | false =>
     have := hdot none (by rw [hd2]; simp) hdig
     rw [h1, cond_true] at this
     simp only [callK_ret, getTup_t, opt_s, uncons_c, getInt_i, getStr_s, getBool_b, isNilL_n, gB_t, cond_true, cond_false, Bool.not_true, Bool.not_false, getSl_s, getSl_o, getOsl_o, Bool.false_eq_true, if_false]
     rw [this, if_pos h46, if_pos h46]
   ·have h1 : decide (c = 46) = false := by simp [h46]
    rw [h1, cond_false, cond_false, law173 hs hk hn]
    simp only [Bool.false_or, Bool.false_and, Bool.false_eq_true, if_false]
    rw [if_neg h46]
    exact htail _ hquo
theorem law148 (hs : s.length ≤ 200000) (hk : kept.length ≤ 200000) (ho : out.length ≤ 200000) {n : Nat} (hn : n < s.length) :
  (ev E).call 148 [LV.cv (CV.ref b.length 0 0), LV.int .i64 (n : Int)] (scM b s fx out kept) = some (outK b s fx out kept (tokenK fx s out n)) := by
 have h := sc_of (b := b) (s := s) (fx := fx) (out := out) (kept := kept)
 have hfin : ∀ {x y : Int} {z : List UInt8}, (opt (G148_6 (ev E) b.length 0 (n : Int) (((s[n]?).getD 0).toNat : Int) x y z (scM b s fx out kept)) fun st => runK E.P (ev E) H148 [] st (bodyEnd E.P (resOf E.P 148))) = some (outK b s fx out kept (tokenN fx s n ((s[n]?).getD 0))) := by
  intro x y z
  rw [seg148_6 hs hk hn, opt_s]
  cases tokenN fx s n ((s[n]?).getD 0) with
  | ok q => exact nfXG148_6_0 _ _ _ _ _ _
  | error e => exact nfXG148_6_1 _ _ _
 refine ev_call ?_
 have hg : s[n]? = some ((s[n]?).getD 0) := by rw [List.getElem?_eq_getElem hn, Option.getD_some]
 rw [nf148, h, rd_str, strip_str, opt_s, getStr_s, opt_s, strAt_get, hg, opt_s, law166 ho]
 simp only [callK_ret, getTup_t, opt_s, uncons_c, getInt_i, getStr_s, getBool_b, isNilL_n, gB_t, cond_true, cond_false, Bool.not_true, Bool.not_false, getSl_s, getSl_o, getOsl_o]
 unfold tokenK
 cases hm : mayH fx out with
 | false =>
  rw [cond_false, hfin]
  rfl
 | true =>
  rw [cond_true, law132]
  simp only [callK_ret, getTup_t, opt_s, uncons_c, getInt_i, getStr_s, getBool_b, isNilL_n, gB_t, cond_true, cond_false, Bool.not_true, Bool.not_false, getSl_s, getSl_o, getOsl_o]
  cases hd : isDig ((s[n]?).getD 0) with
  | false =>
   rw [cond_false, hfin]
   rfl
  | true =>
   rw [cond_true, law167 hs hk (by omega)]
   by_cases hh : holOK fx s n
   ·simp only [hh, if_true, Bool.true_and, decide_true]
    cases holK fx s n with
    | ok q => simp only [outH, callK_ret, getTup_t, opt_s, uncons_c, getInt_i, getStr_s, getBool_b, isNilL_n, gB_t, cond_true, cond_false, Bool.not_true, Bool.not_false, getSl_s, getSl_o, getOsl_o, rd23_tok]; rfl
    | error e => rfl
   ·simp only [hh, if_false, Bool.true_and, decide_false, Bool.false_eq_true]
    simp only [callK_ret, getTup_t, opt_s, uncons_c, getInt_i, getStr_s, getBool_b, isNilL_n, gB_t, cond_true, cond_false, Bool.not_true, Bool.not_false, getSl_s, getSl_o, getOsl_o, rd23_tok]
    exact hfin
end
end Go.Abs

set_option linter.unusedVariables false
set_option linter.unusedSimpArgs false
set_option maxRecDepth 100000
namespace Go.Abs
open Go Go.Proofs
section
variable {b : Mu} {s : List UInt8} {fx : Bool} {out : List Tok} {kept : List Nat} {μ : Mu}
theorem skip_at {n : Nat} {c : UInt8} (h : s[n]? = some c) (hc : c ≠ 32) : skipN fx s n = n := by
 unfold skipN
 split
 ·have hn : n < s.length := by
   rcases Nat.lt_or_ge n s.length with h1 | h1
   ·exact h1
   ·rw [List.getElem?_eq_none h1] at h; cases h
  have hd : s.drop n = s[n] :: s.drop (n + 1) := List.drop_eq_getElem_cons hn
  rw [List.getElem?_eq_getElem hn] at h
  injection h with h
  rw [hd, blanks, h, if_neg hc]
  rfl
 ·rfl
theorem lt_of_get {n : Nat} {c : UInt8} (h : s[n]? = some c) : n < s.length := by
 rcases Nat.lt_or_ge n s.length with h1 | h1
 ·exact h1
 ·rw [List.getElem?_eq_none h1] at h; cases h
theorem atC_at {n : Nat} {c : UInt8} (h : s[n]? = some c) (hc : c ≠ 32) : atC fx s n = c ∧ atE fx s n = n + 1 := by
 have hn := lt_of_get h
 unfold atC atE
 rw [skip_at h hc, h]
 exact ⟨rfl, by rw [if_pos hn]⟩
theorem atE_ge {n : Nat} : n ≤ atE fx s n := by
 have := skipN_ge (fx := fx) (s := s) (n := n)
 unfold atE
 split <;> omega
theorem runE_ge {p : UInt8 → Bool} {n : Nat} : n ≤ runE fx p s n := by unfold runE; omega
theorem runE_gt {p : UInt8 → Bool} {n : Nat} {c : UInt8} (h : s[n]? = some c) (hc : c ≠ 32) (h0 : c ≠ 0) (hp : p c = true) : n + 1 ≤ runE fx p s n := by
 obtain ⟨h1, h2⟩ := atC_at (fx := fx) h hc
 have := (runC_step (fx := fx) (s := s) (p := p) (n := n) (by rw [h1, hp]; simp [h0])).2
 rw [this, h2]
 exact runE_ge
def Fits (s : List UInt8) (n : Nat) : Except Int (Tok × Nat × List Nat) → Prop
 | .ok q => n < q.2.1 ∧ q.2.1 ≤ s.length ∧ q.2.2.length + n ≤ q.2.1
 | .error _ => True
theorem expo_end {n : Nat} (hn : n ≤ s.length) : n ≤ (expo fx s n).2.2.1 ∧ (expo fx s n).2.2.1 ≤ s.length := by
 unfold expo
 have hle := atE_le (fx := fx) hn
 have hle2 := atE_le (fx := fx) hle
 have hst : expStart fx s n ≤ s.length := by unfold expStart; split <;> assumption
 have hst2 : n ≤ expStart fx s n := by
  have h1 := atE_ge (fx := fx) (s := s) (n := n)
  have h2 := atE_ge (fx := fx) (s := s) (n := atE fx s n)
  unfold expStart; split <;> omega
 split
 ·have h1 := runE_ge (fx := fx) (s := s) (p := isDig) (n := expStart fx s n)
  have h2 := runE_le (fx := fx) (p := isDig) hst
  simp only
  omega
 ·simp only; omega
theorem real_end {whole part digits : List UInt8} {letter : UInt8} {ok : Bool} {e : Nat} {q : Tok × Nat} (h : real whole part digits letter ok e = .ok q) : q.2 = e := by
 unfold real at h
 split at h
 ·cases h
 ·injection h with h
  rw [← h]
theorem number_fits {n : Nat} {c : UInt8} (h : s[n]? = some c) (hc : isDig c = true ∨ c = 46) : Fits s n (noK (number fx s n)) := by
 have hn := lt_of_get h
 have h32 : c ≠ 32 := by
  rintro rfl
  rcases hc with h1 | h1
  ·exact absurd h1 (by decide)
  ·exact absurd h1 (by decide)
 have h0 : c ≠ 0 := by
  rintro rfl
  rcases hc with h1 | h1
  ·exact absurd h1 (by decide)
  ·exact absurd h1 (by decide)
 obtain ⟨ha, hb⟩ := atC_at (fx := fx) h h32
 have hle := runE_le (fx := fx) (p := isDig) (Nat.le_of_lt hn)
 have hle2 := atE_le (fx := fx) hle
 have hle3 := runE_le (fx := fx) (p := isDig) hle2
 have hend : numEnd fx s n ≤ s.length := by unfold numEnd; split <;> assumption
 have hgt : n < numEnd fx s n := by
  have g1 := runE_ge (fx := fx) (p := isDig) (s := s) (n := n)
  have g2 := atE_ge (fx := fx) (s := s) (n := runE fx isDig s n)
  have g3 := runE_ge (fx := fx) (p := isDig) (s := s) (n := atE fx s (runE fx isDig s n))
  rcases hc with hd | hd
  ·have := runE_gt (fx := fx) h h32 h0 hd
   unfold numEnd; split <;> omega
  ·obtain ⟨e1, e2⟩ := runC_end (fx := fx) (s := s) (p := isDig) (n := n) (by rw [ha, hd]; decide)
   have hdot : numDot fx s n = true := by
    unfold numDot numWhole
    rw [e2, ha, e1, hd]
    simp
   unfold numEnd
   rw [if_pos hdot, e2, hb]
   rw [e2, hb] at g3
   omega
 have hx := expo_end (fx := fx) (s := s) hend
 unfold number
 simp only
 split
 ·cases integer (numWhole fx s n) with
  | ok t => exact ⟨hgt, hend, by simp; omega⟩
  | error e => trivial
 ·cases hr : real (numWhole fx s n) (numPart fx s n) (expo fx s (numEnd fx s n)).2.1 (expo fx s (numEnd fx s n)).1 (expo fx s (numEnd fx s n)).2.2.2 (if (expo fx s (numEnd fx s n)).2.2.2 then (expo fx s (numEnd fx s n)).2.2.1 else numEnd fx s n) with
  | error e => trivial
  | ok q =>
   have := real_end hr
   refine ⟨?_, ?_, ?_⟩
   ·show n < q.2
    rw [this]; split <;> omega
   ·show q.2 ≤ s.length
    rw [this]; split <;> omega
   ·show 0 + n ≤ q.2
    rw [this]; split <;> omega
theorem quoted_fits {n : Nat} (hn : n < s.length) : Fits s n (quotedK s n) := by
 unfold quotedK quoted
 cases hq : quotL ((s[n]?).getD 0) (s.drop (n + 1)) with
 | none => trivial
 | some x =>
  obtain ⟨t, k⟩ := x
  have := quotL_len _ _ (Nat.le_refl _) t k hq
  rw [List.length_drop] at this
  simp only
  split
  ·rename_i q heq
   split at heq
   ·cases heq
   ·injection heq with heq
    subst heq
    refine ⟨?_, ?_, ?_⟩
    ·show n < n + 1 + k
     omega
    ·show n + 1 + k ≤ s.length
     omega
    ·show (List.range' n (n + 1 + k - n)).length + n ≤ n + 1 + k
     simp; omega
  ·trivial
theorem op_fits {n : Nat} {c : UInt8} (h : s[n]? = some c) (hc : c ≠ 32) : Fits s n (noK (opTok fx s n)) := by
 have hn := lt_of_get h
 obtain ⟨ha, hb⟩ := atC_at (fx := fx) h hc
 have g1 := atE_ge (fx := fx) (s := s) (n := n + 1)
 have g2 := atE_le (fx := fx) (s := s) (n := n + 1) hn
 unfold opTok
 simp only [hb]
 split
 ·exact ⟨by show n < atE fx s (n + 1); omega, g2, by show 0 + n ≤ atE fx s (n + 1); omega⟩
 ·split
  ·exact ⟨by show n < atE fx s (n + 1); omega, g2, by show 0 + n ≤ atE fx s (n + 1); omega⟩
  ·split
   ·exact ⟨by show n < n + 1; omega, hn, by show 0 + n ≤ n + 1; omega⟩
   ·split
    ·exact ⟨by show n < n + 1; omega, hn, by show 0 + n ≤ n + 1; omega⟩
    ·trivial
theorem token_fits {n : Nat} {c : UInt8} (h : s[n]? = some c) (hc : c ≠ 32) : Fits s n (tokenK fx s out n) := by
 have hn := lt_of_get h
 obtain ⟨ha, hb⟩ := atC_at (fx := fx) h hc
 unfold tokenK
 rw [h, Option.getD_some]
 split
 ·rename_i hh
  simp only [Bool.and_eq_true, decide_eq_true_eq] at hh
  obtain ⟨_, hN⟩ := hh
  unfold holK
  split
  ·trivial
  ·rename_i hlen
   have g1 := runE_ge (fx := fx) (p := isDig) (s := s) (n := n)
   have g2 := atE_ge (fx := fx) (s := s) (n := runE fx isDig s n)
   have g3 : runE fx isDig s n ≤ holE fx s n := g2
   have g4 := hN.2.1
   refine ⟨?_, ?_, ?_⟩
   ·show n < holE fx s n + (holN fx s n).toNat
    omega
   ·show holE fx s n + (holN fx s n).toNat ≤ s.length
    omega
   ·show (List.range' (holE fx s n) (holN fx s n).toNat).length + n ≤ holE fx s n + (holN fx s n).toNat
    simp; omega
 ·unfold tokenN
  split
  ·rename_i hl
   have h0 : c ≠ 0 := by rintro rfl; exact absurd hl (by decide)
   have hp : isPar c = true := by unfold isPar; rw [hl]; rfl
   have g1 := runE_gt (fx := fx) h hc h0 hp
   have g2 := runE_le (fx := fx) (p := isPar) (Nat.le_of_lt hn)
   split
   ·trivial
   ·exact ⟨by show n < runE fx isPar s n; omega, g2, by show 0 + n ≤ runE fx isPar s n; omega⟩
  ·split
   ·rename_i hd
    refine number_fits h ?_
    rw [Bool.or_eq_true, Bool.and_eq_true, decide_eq_true_eq] at hd
    rcases hd with hd | hd
    ·exact Or.inl hd
    ·exact Or.inr hd.1
   ·split
    ·rename_i h46
     subst h46
     split
     ·have e : dotted fx s n = (dotText fx s n, dotEnd fx s n, dotOK fx s n) := by unfold dotted; rw [if_pos ha]
      rw [e]
      have g1 := runE_ge (fx := fx) (p := isLet) (s := s) (n := atE fx s n)
      have g2 := atE_ge (fx := fx) (s := s) (n := runE fx isLet s (atE fx s n))
      have g3 := atE_le (fx := fx) (Nat.le_of_lt hn)
      have g4 := runE_le (fx := fx) (p := isLet) g3
      have g5 := atE_le (fx := fx) g4
      have g6 : runE fx isLet s (atE fx s n) ≤ dotEnd fx s n := g2
      rw [hb] at g1 g6
      exact ⟨by show n < dotEnd fx s n; omega, g5, by show 0 + n ≤ dotEnd fx s n; omega⟩
     ·trivial
    ·split
     ·exact quoted_fits hn
     ·exact op_fits h hc
def splitL (fx : Bool) (s : List UInt8) : Nat → Nat → List Tok → List Nat → Option (Nat × Int) × List Tok × List Nat
 | 0, _, out, kept => (none, out, kept)
 | k + 1, n, out, kept =>
  if s.length ≤ n + blanks (s.drop n) then (none, out, kept)
  else match tokenK fx s out (n + blanks (s.drop n)) with
   | .error e => (some (n + blanks (s.drop n), e), out, kept)
   | .ok q => splitL fx s k q.2.1 (out ++ [q.1]) (kept ++ q.2.2)
def endS (b : Mu) (s : List UInt8) (fx : Bool) : Option (Nat × Int) × List Tok × List Nat → St
 | (none, out, kept) => XL118_2_0 0 0 (scM b s fx out kept)
 | (some (n, e), out, kept) => XL118_2_1 (wrong e) (n : Int) 0 (scM b s fx out kept)
theorem loop118b {l i : Nat} {r : List LV} (h : Sc μ l i s fx r) (hs : s.length ≤ 1000000) : ∀ (k n : Nat), n + k = s.length → L118_2b (ev E) l i (n : Int) 0 μ = some (XL118_2b_0 l i ((n + blanks (s.drop n) : Nat) : Int) 0 μ) := by
 intro k
 induction k with
 | zero =>
  intro n hk
  refine ev_loop ?_
  rw [nfL118_2b, h]
  simp only [opt_s, rd_str, strip_str, getStr_s]
  have : List.drop n s = [] := List.drop_eq_nil_of_le (by omega)
  have h1 : decide ((n : Int) < (s.length : Int)) = false := by simp; omega
  rw [h1, this]
  simp [blanks]
 | succ k ih =>
  intro n hk
  refine ev_loop ?_
  rw [nfL118_2b, h]
  simp only [opt_s, rd_str, strip_str, getStr_s]
  have h1 : decide ((n : Int) < (s.length : Int)) = true := by simp; omega
  have hn : n < s.length := by omega
  rw [h1, strAt_get, List.getElem?_eq_getElem hn, opt_s]
  have hd : List.drop n s = s[n] :: List.drop (n + 1) s := List.drop_eq_getElem_cons hn
  have e : IntKind.wrap .i64 ((n : Int) + 1) = ((n + 1 : Nat) : Int) := by rw [wrap64 (by omega) (by omega)]; omega
  have e32 : ∀ c : UInt8, decide ((c.toNat : Int) = 32) = decide (c = 32) := fun c => u8_eq (k := 32) (by omega)
  rw [e, ih (n + 1) (by omega), e32, hd, blanks]
  by_cases hc : s[n] = 32
  ·simp only [hc, decide_true, cond_true, if_true]
   congr 2
   omega
  ·simp only [hc, decide_false, cond_false, cond_true, if_false]
   rfl
theorem blanks_get {n : Nat} (h : n + blanks (s.drop n) < s.length) : ∃ c, s[n + blanks (s.drop n)]? = some c ∧ c ≠ 32 := by
 refine ⟨s[n + blanks (s.drop n)], List.getElem?_eq_getElem h, ?_⟩
 have hd := List.drop_eq_getElem_cons h
 refine blanks_head (s.drop n) _ (s.drop (n + blanks (s.drop n) + 1)) ?_
 rw [List.drop_drop]
 exact hd
theorem loop118 (hs : s.length ≤ 200000) : ∀ (k n : Nat) (out : List Tok) (kept : List Nat), s.length < n + k → n ≤ s.length → out.length ≤ n → kept.length ≤ n →
  L118_2 (ev E) b.length 0 (n : Int) 0 (scM b s fx out kept) = some (endS b s fx (splitL fx s k n out kept)) := by
 intro k
 induction k with
 | zero => intro n out kept hk hn ho hq; omega
 | succ k ih =>
  intro n out kept hk hn ho hq
  have h := sc_of (b := b) (s := s) (fx := fx) (out := out) (kept := kept)
  have hb := blanks_le (s.drop n)
  rw [List.length_drop] at hb
  refine ev_loop ?_
  rw [nfL118_2, loop118b h (by omega) (s.length - n) n (by omega), opt_s, nfXL118_2b_0, h, rd_str, strip_str, opt_s, getStr_s, opt_s]
  unfold splitL
  by_cases hm : s.length ≤ n + blanks (s.drop n)
  ·have : decide ((s.length : Int) ≤ ((n + blanks (s.drop n) : Nat) : Int)) = true := by simp; omega
   rw [this, cond_true, if_pos hm]
   rfl
  ·have : decide ((s.length : Int) ≤ ((n + blanks (s.drop n) : Nat) : Int)) = false := by simp; omega
   rw [this, cond_false, if_neg hm]
   obtain ⟨c, hc1, hc2⟩ := blanks_get (s := s) (n := n) (by omega)
   have hf := token_fits (fx := fx) (out := out) hc1 hc2
   obtain ⟨m, hmd⟩ : ∃ m, m = n + blanks (s.drop n) := ⟨_, rfl⟩
   rw [← hmd] at hm hf ⊢
   cases ht : tokenK fx s out m with
   | error e =>
    have hG : G118_6 (ev E) b.length 0 (m : Int) 0 (scM b s fx out kept) = some (XG118_6_1 (wrong e) (m : Int) 0 (scM b s fx out kept)) := by
     refine ev_seg ?_
     rw [nfG118_6, law148 hs (by omega) (by omega) (by omega), ht]
     rfl
    rw [hG, opt_s, nfXG118_6_1]
    rfl
   | ok q =>
    rw [ht] at hf
    obtain ⟨f1, f2, f3⟩ := hf
    have hG : G118_6 (ev E) b.length 0 (m : Int) 0 (scM b s fx out kept) = some (XG118_6_0 b.length 0 (q.2.1 : Int) 0 (scM b s fx (out ++ [q.1]) (kept ++ q.2.2))) := by
     refine ev_seg ?_
     rw [nfG118_6, law148 hs (by omega) (by omega) (by omega), ht]
     simp only [outK, callK_ret, getTup_t, opt_s, uncons_c, getInt_i, getStr_s, getBool_b, isNilL_n, gB_t, cond_true, cond_false, Bool.not_true, Bool.not_false, getSl_s, getSl_o, getOsl_o, rd23_tok]
     unfold scM
     rw [top_ob]
     unfold scO
     rw [take2, opt_s, osl_tL, opt_s]
     have ha : [CV.agg [CV.int .i64 q.1.kind, CV.int .i64 q.1.type, CV.str q.1.text]] = toksCV [q.1] := rfl
     have hc : CV.agg [CV.int .i64 q.1.kind, CV.int .i64 q.1.type, CV.str q.1.text] = q.1.cv := rfl
     rw [ha, appOK_toks (by simp; omega), gB_t]
     have hbl : belowL (b.length + 1) (toksCV out ++ toksCV [q.1]) = true := by
      have : toksCV out ++ toksCV [q.1] = toksCV (out ++ [q.1]) := by simp [toksCV]
      rw [this]; exact belowL_toks _
     rw [hbl, gB_t, top_set, top_ob, write2, opt_s, top_set]
     have e2 : toksCV [q.1] = [q.1.cv] := rfl
     rw [e2, tL_app]
    rw [hG, opt_s, nfXG118_6_0, ih q.2.1 _ _ (by omega) f2 (by simp; omega) (by simp; omega)]
theorem pop_top (b : Mu) (x : Lam) : popMu (b ++ [x]) = some (b, x) := by simp [popMu]
theorem write_int {e : Int} : obWrite E.P 25 (.cells [LV.int .i64 (0 : Int)]) 0 (LV.int .i64 e) = some (.cells [LV.int .i64 e]) := by kernel_rfl
theorem read_int {e : Int} : obRead E.P 25 (lamOb [Ob.cells [LV.int .i64 e]] 0) 0 = some (LV.int .i64 e) := by kernel_rfl
def splitN : Option (Nat × Int) → Nat × Int
 | none => (0, 0)
 | some q => q
theorem law118 (hs : s.length ≤ 200000) {r : Option (Nat × Int) × List Tok × List Nat} (hr : splitL fx s (s.length + 1) 0 [] [] = r) :
  (ev E).call 118 [LV.cv (CV.ref b.length 0 0)] (scM b s fx [] []) = some (.ret (.ltup [LV.int .i64 ((splitN r.1).1 : Int), LV.int .i64 (splitN r.1).2]) (scM b s fx r.2.1 r.2.2)) := by
 refine ev_call ?_
 have hl := loop118 (b := b) (fx := fx) hs (s.length + 1) 0 [] [] (by omega) (by omega) (by simp) (by simp)
 have e0 : ((0 : Nat) : Int) = 0 := rfl
 rw [hr, e0] at hl
 rw [nf118, hl, opt_s]
 obtain ⟨x, o, q⟩ := r
 cases x with
 | none =>
  simp only [endS]
  have hd : (ev E).dcall 147 none [LV.cv (CV.ref (scM b s fx o q).length 0 0)] (scM b s fx o q ++ [[Ob.cells [LV.int .i64 0]]]) = some (scM b s fx o q ++ [[Ob.cells [LV.int .i64 0]]]) := ev_dcall (by rw [nf147_0])
  rw [nfXL118_2_0, hd, opt_s, pop_top, opt_s]
  simp only [read_int, opt_s, splitN]
  rfl
 | some w =>
  obtain ⟨n, e⟩ := w
  simp only [endS]
  have hd : (ev E).dcall 147 (some (wrong e)) [LV.cv (CV.ref (scM b s fx o q).length 0 0)] (scM b s fx o q ++ [[Ob.cells [LV.int .i64 0]]]) = some (scM b s fx o q ++ [[Ob.cells [LV.int .i64 e]]]) := by
   refine ev_dcall ?_
   unfold wrong
   rw [nf147_1, top_ob, write_int, opt_s, top_set]
  rw [nfXL118_2_1, hd, opt_s, pop_top, opt_s]
  simp only [read_int, opt_s, splitN]
  rfl
def isTextB (s : List UInt8) : Bool := !(s.any fun b => decide (b.toNat < 32) || decide (126 < b.toNat))
def textErr (s : List UInt8) : Int := if 1320 < s.length then 8 else if isTextB s then 0 else 3
theorem law43 {g : FuncId} {p : UInt8 → Bool} (hg : runePreds g = some p) : (ev E).call 43 [LV.str s, LV.cv (CV.clo g [])] μ = some (.ret (LV.bool (s.any p)) μ) := by
 refine prim_call (g := pContainsFunc runePreds) (by kernel_rfl) ?_
 simp only [pContainsFunc, uncons_c, opt_s, isNilL_n, getStr_s, hg]
theorem law85 : (ev E).call 85 [LV.str s] μ = some (.ret (LV.bool (isTextB s)) μ) := by
 refine ev_call ?_
 rw [nf85, law43 (g := 122) rfl]
 simp only [callK_ret, getTup_t, opt_s, uncons_c, getInt_i, getStr_s, getBool_b, isNilL_n, gB_t, cond_true, cond_false, Bool.not_true, Bool.not_false, getSl_s, getSl_o, getOsl_o]
 rfl
theorem law117 : (ev E).call 117 [LV.str s] μ = some (.ret (LV.int .i64 (textErr s)) μ) := by
 refine ev_call ?_
 rw [nf117, law85]
 simp only [callK_ret, getTup_t, opt_s, uncons_c, getInt_i, getStr_s, getBool_b, isNilL_n, gB_t, cond_true, cond_false, Bool.not_true, Bool.not_false, getSl_s, getSl_o, getOsl_o]
 unfold textErr
 by_cases h : 1320 < s.length
 ·have : decide ((1320 : Int) < (s.length : Int)) = true := by simp; omega
  rw [this, if_pos h]
  rfl
 ·have : decide ((1320 : Int) < (s.length : Int)) = false := by simp; omega
  rw [this, if_neg h]
  cases isTextB s <;> rfl
structure Scan where
 toks : List Tok
 kept : List Nat
 n : Nat
 e : Int
def scan (fx : Bool) (s : List UInt8) : Scan :=
 if textErr s = 0 then
  let r := splitL fx s (s.length + 1) 0 [] []
  if (splitN r.1).2 = 0 then (if 300 < r.2.1.length then ⟨r.2.1, r.2.2, 0, 8⟩ else ⟨r.2.1, r.2.2, r.2.1.length, 0⟩) else ⟨r.2.1, r.2.2, (splitN r.1).1, (splitN r.1).2⟩
 else ⟨[], [], 0, textErr s⟩
def scanC (fx : Bool) (s : List UInt8) : List CV := if textErr s = 0 then [CV.str s, CV.bool fx, CV.sl (toksCV (scan fx s).toks), CV.sl (intsCV (scan fx s).kept)] else [CV.str s, CV.bool fx, CV.v (.slice none 0 0), CV.v (.slice none 0 0)]
theorem obs_sc {α : Type} {k : Lam → Option α} : obsL [(0, [0, 0, 1, 1])] [scO s fx out kept] k = k [.cells [LV.str s, LV.bool fx, .osl (toksCV out), .osl (intsCV kept)]] := by
 have h1 := osl_tL (out := out)
 have h2 := osl_kL (kept := kept)
 unfold scO
 simp only [obsL, lamOb, List.getElem?_cons_zero, cellsN, cellN, h1, h2, opt_s, List.set_cons_zero]
theorem belowC {n : Nat} : below n (CV.view [CV.str s, CV.bool fx, CV.sl (toksCV out), CV.sl (intsCV kept)]) = true := by
 simp only [below, belowL]
 rw [belowL_toks, belowL_ints]
theorem law78 (hs : s.length ≤ 200000) : (ev E).call 78 [LV.str s, LV.bool fx] μ = some (.ret (.ltup [LV.cv (CV.view (scanC fx s)), LV.int .i64 ((scan fx s).n : Int), LV.int .i64 (scan fx s).e]) μ) := by
 refine ev_call ?_
 rw [nf78, law117]
 simp only [callK_ret, getTup_t, opt_s, uncons_c, getInt_i, getStr_s, getBool_b, isNilL_n, gB_t, cond_true, cond_false, Bool.not_true, Bool.not_false, getSl_s, getSl_o, getOsl_o]
 by_cases ht : textErr s = 0
 ·have : decide (textErr s = 0) = true := by simp [ht]
  rw [this, Bool.not_true, cond_false]
  obtain ⟨r, hr⟩ : ∃ r, splitL fx s (s.length + 1) 0 [] [] = r := ⟨_, rfl⟩
  have hsc : scan fx s = if (splitN r.1).2 = 0 then (if 300 < r.2.1.length then ⟨r.2.1, r.2.2, 0, 8⟩ else ⟨r.2.1, r.2.2, r.2.1.length, 0⟩) else ⟨r.2.1, r.2.2, (splitN r.1).1, (splitN r.1).2⟩ := by
   unfold scan; rw [if_pos ht, hr]
  have htk : (scan fx s).toks = r.2.1 ∧ (scan fx s).kept = r.2.2 := by
   rw [hsc]; split
   ·split <;> exact ⟨rfl, rfl⟩
   ·exact ⟨rfl, rfl⟩
  have hC : scanC fx s = [CV.str s, CV.bool fx, CV.sl (toksCV r.2.1), CV.sl (intsCV r.2.2)] := by unfold scanC; rw [if_pos ht, htk.1, htk.2]
  have hl := law118 (b := μ) (fx := fx) hs hr
  have hlen : (toksCV r.2.1).length = r.2.1.length := by simp [toksCV]
  have h5 : G78_5 (ev E) s fx μ = some (if (splitN r.1).2 = 0 ∧ ¬ 300 < r.2.1.length then XG78_5_1 s fx (toksCV r.2.1) (intsCV r.2.2) ((scan fx s).n : Int) (scan fx s).e .dead μ else XG78_5_0 s fx (toksCV r.2.1) (intsCV r.2.2) ((scan fx s).n : Int) (scan fx s).e μ) := by
   refine ev_seg ?_
   have e0 : μ ++ [[Ob.cells [LV.str s, LV.bool fx, LV.cv (CV.v (.slice none 0 0)), LV.cv (CV.v (.slice none 0 0))]]] = scM μ s fx [] [] := rfl
   rw [nfG78_5, e0, hl]
   simp only [callK_ret, getTup_t, opt_s, uncons_c, getInt_i, getStr_s, getBool_b, isNilL_n, gB_t, cond_true, cond_false, Bool.not_true, Bool.not_false, getSl_s, getSl_o, getOsl_o]
   unfold scM
   rw [pop_top, opt_s, obs_sc]
   by_cases he : (splitN r.1).2 = 0
   ·have h6 : G78_6 (ev E) ((splitN r.1).1 : Int) (splitN r.1).2 [.cells [LV.str s, LV.bool fx, .osl (toksCV r.2.1), .osl (intsCV r.2.2)]] μ = some (XG78_6_1 s fx (toksCV r.2.1) (intsCV r.2.2) μ) := by
     refine ev_seg ?_
     have : decide ((splitN r.1).2 = 0) = true := by simp [he]
     rw [nfG78_6, this]
     rfl
    rw [h6, opt_s, nfXG78_6_1]
    rw [hsc, if_pos he]
    by_cases h3 : 300 < r.2.1.length
    ·have h8 : G78_8 (ev E) [.cells [LV.str s, LV.bool fx, .osl (toksCV r.2.1), .osl (intsCV r.2.2)]] μ = some (XG78_8_0 s fx (toksCV r.2.1) (intsCV r.2.2) 0 8 μ) := by
      refine ev_seg ?_
      have : decide ((300 : Int) < ((toksCV r.2.1).length : Int)) = true := by rw [hlen]; simp; omega
      rw [nfG78_8, this]
      rfl
     rw [h8, opt_s, nfXG78_8_0, if_pos h3, if_neg (by simp [h3])]
     rfl
    ·have h8 : G78_8 (ev E) [.cells [LV.str s, LV.bool fx, .osl (toksCV r.2.1), .osl (intsCV r.2.2)]] μ = some (XG78_8_1 s fx (toksCV r.2.1) (intsCV r.2.2) (r.2.1.length : Int) 0 .dead μ) := by
      refine ev_seg ?_
      have : decide ((300 : Int) < ((toksCV r.2.1).length : Int)) = false := by rw [hlen]; simp; omega
      have h10 : G78_10 (ev E) s fx (toksCV r.2.1) (intsCV r.2.2) [Ob.dead] μ = some (XG78_10_0 s fx (toksCV r.2.1) (intsCV r.2.2) (r.2.1.length : Int) 0 .dead μ) := by
       refine ev_seg ?_
       rw [nfG78_10, hlen]
      rw [nfG78_8, this, cond_false, h10, opt_s, nfXG78_10_0]
     rw [h8, opt_s, nfXG78_8_1, if_neg h3, if_pos ⟨he, h3⟩]
   ·have h6 : G78_6 (ev E) ((splitN r.1).1 : Int) (splitN r.1).2 [.cells [LV.str s, LV.bool fx, .osl (toksCV r.2.1), .osl (intsCV r.2.2)]] μ = some (XG78_6_0 s fx (toksCV r.2.1) (intsCV r.2.2) ((splitN r.1).1 : Int) (splitN r.1).2 μ) := by
     refine ev_seg ?_
     have : decide ((splitN r.1).2 = 0) = false := by simp [he]
     rw [nfG78_6, this]
     rfl
    rw [h6, opt_s, nfXG78_6_0, hsc, if_neg he, if_neg (by simp [he])]
  rw [h5, opt_s]
  have : belowRes μ.length (LV.ltup [LV.cv (CV.view [CV.str s, CV.bool fx, CV.sl (toksCV r.2.1), CV.sl (intsCV r.2.2)]), LV.int .i64 ((scan fx s).n : Int), LV.int .i64 (scan fx s).e]) = true := by
   simp only [belowRes, List.all_cons, belowRes1, belowC]
   rfl
  split
  ·rw [nfXG78_5_1, this, gB_t, hC]
  ·rw [nfXG78_5_0, this, gB_t, hC]
 ·have : decide (textErr s = 0) = false := by simp [ht]
  have hC : scanC fx s = [CV.str s, CV.bool fx, CV.v (.slice none 0 0), CV.v (.slice none 0 0)] := by unfold scanC; rw [if_neg ht]
  have hsc : scan fx s = ⟨[], [], 0, textErr s⟩ := by unfold scan; rw [if_neg ht]
  rw [this, Bool.not_false, cond_true, hC, hsc]
  rfl
def scanT (fx : Bool) (s : List UInt8) : List Tok := if (scan fx s).e = 0 then (scan fx s).toks else []
theorem scan_ok (h : (scan fx s).e = 0) : textErr s = 0 ∧ (scan fx s).n = (scan fx s).toks.length ∧ scanC fx s = [CV.str s, CV.bool fx, CV.sl (toksCV (scan fx s).toks), CV.sl (intsCV (scan fx s).kept)] := by
 by_cases ht : textErr s = 0
 ·refine ⟨ht, ?_, by unfold scanC; rw [if_pos ht]⟩
  unfold scan at h ⊢
  rw [if_pos ht] at h ⊢
  simp only at h ⊢
  by_cases he : (splitN (splitL fx s (s.length + 1) 0 [] []).1).2 = 0
  ·rw [if_pos he] at h ⊢
   by_cases h3 : 300 < (splitL fx s (s.length + 1) 0 [] []).2.1.length
   ·rw [if_pos h3] at h; exact absurd h (by simp)
   ·rw [if_neg h3]
  ·rw [if_neg he] at h
   exact absurd h he
 ·unfold scan at h
  rw [if_neg ht] at h
  exact absurd h ht
theorem isNil_view {l : List CV} : isNilA (LV.cv (CV.view l)) = some false := rfl
theorem getView_v {l : List CV} : getView (LV.cv (untypeC (CV.view l))) = some l := rfl
theorem getStr_c {t : List UInt8} : getStr (LV.cv (CV.str t)) = some t := rfl
theorem getBool_c {t : Bool} : getBool (LV.cv (CV.bool t)) = some t := rfl
def single (s : List UInt8) : Option Tok := if (scan false s).e = 0 ∧ (scan false s).n = 1 then (scan false s).toks[0]? else none
def optT : Option Tok → List LV
 | some t => [.cv t.cv, LV.bool true]
 | none => [.cv noTok.cv, LV.bool false]
theorem law46 (hs : s.length ≤ 200000) : (ev E).call 46 [LV.str s] μ = some (.ret (.ltup (optT (single s))) μ) := by
 refine ev_call ?_
 rw [nf46, law78 hs]
 simp only [callK_ret, getTup_t, opt_s, uncons_c, getInt_i, getStr_s, getBool_b, isNilL_n, gB_t, cond_true, cond_false, Bool.not_true, Bool.not_false, getSl_s, getSl_o, getOsl_o, getCv_c]
 unfold single
 by_cases he : (scan false s).e = 0
 ·have h1 : decide ((scan false s).e = 0) = true := by simp [he]
  rw [h1, Bool.not_true, cond_false]
  by_cases hn : (scan false s).n = 1
  ·have h2 : decide (((scan false s).n : Int) = 1) = true := by simp [hn]
   obtain ⟨_, hl, hC⟩ := scan_ok he
   rw [h2, Bool.not_true, cond_false, if_pos ⟨he, hn⟩]
   obtain ⟨t, ht⟩ : ∃ t, (scan false s).toks = [t] := by
    rw [hn] at hl
    exact List.length_eq_one_iff.1 hl.symm
   have hG : G46_4 (ev E) (CV.view (scanC false s)) 0 0 [] μ = some (XG46_4_0 true t.kind t.type t.text μ) := by
    refine ev_seg ?_
    rw [nfG46_4, isNil_view, opt_s, Bool.not_false, gB_t, getView_v, opt_s, hC, ht]
    simp only [callK_ret, getTup_t, opt_s, uncons_c, getInt_i, getStr_s, getBool_b, isNilL_n, gB_t, cond_true, cond_false, Bool.not_true, Bool.not_false, getSl_s, getSl_o, getOsl_o, getStr_c, getBool_c]
    have : slAt (toksCV [t]) (0 : Int) = some t.cv := rfl
    rw [this, opt_s, rd23_tok]
   rw [hG, opt_s, nfXG46_4_0, ht]
   rfl
  ·have h2 : decide (((scan false s).n : Int) = 1) = false := by simp; omega
   rw [h2, Bool.not_false, cond_true, if_neg (by simp [hn])]
   rfl
 ·have h1 : decide ((scan false s).e = 0) = false := by simp [he]
  rw [h1, Bool.not_false, cond_true, if_neg (by simp [he])]
  rfl
end
end Go.Abs

set_option linter.unusedVariables false
set_option linter.unusedSimpArgs false
namespace Go.Abs
open Go
def stepD (a : Nat) (c : UInt8) : Nat := a * 10 + (c.toNat - 48)
def valD (acc : Nat) (l : List UInt8) : Nat := l.foldl stepD acc
theorem valD_nil (acc : Nat) : valD acc [] = acc := rfl
theorem valD_step (c : UInt8) (r : List UInt8) (acc : Nat) : valD acc (c :: r) = valD (stepD acc c) r := by unfold valD; rw [List.foldl_cons]
theorem valD_cons (c : UInt8) (r : List UInt8) (acc : Nat) : valD acc (c :: r) = valD (acc * 10 + (c.toNat - 48)) r := by rw [valD_step]; unfold stepD; exact Eq.refl _
theorem isDig_iff {c : UInt8} : isDig c = true ↔ 48 ≤ c.toNat ∧ c.toNat ≤ 57 := by
 unfold isDig
 rw [Bool.and_eq_true, decide_eq_true_eq, decide_eq_true_eq]
theorem valD_app (c : UInt8) (l : List UInt8) : ∀ (acc : Nat), valD acc (l ++ [c]) = valD acc l * 10 + (c.toNat - 48) := by
 induction l with
 | nil => intro acc; rw [List.nil_append, valD_cons, valD_nil, valD_nil]
 | cons d r ih => intro acc; rw [List.cons_append, valD_cons, valD_cons, ih]
theorem valD_bounds : ∀ (l : List UInt8) (acc : Nat), (∀ b ∈ l, isDig b = true) → acc * 10 ^ l.length ≤ valD acc l ∧ valD acc l < (acc + 1) * 10 ^ l.length
 | [], acc, _ => by rw [valD_nil, List.length_nil, Nat.pow_zero]; omega
 | c :: r, acc, h => by
  have hc := isDig_iff.1 (h c List.mem_cons_self)
  obtain ⟨h1, h2⟩ := valD_bounds r (acc * 10 + (c.toNat - 48)) (fun b hb => h b (List.mem_cons_of_mem _ hb))
  rw [valD_cons]; simp only [List.length_cons, Nat.pow_succ]
  have e1 : acc * (10 ^ r.length * 10) = (acc * 10) * 10 ^ r.length := by rw [Nat.mul_comm (10 ^ r.length) 10, Nat.mul_assoc]
  have e2 : (acc + 1) * (10 ^ r.length * 10) = ((acc + 1) * 10) * 10 ^ r.length := by rw [Nat.mul_comm (10 ^ r.length) 10, Nat.mul_assoc]
  rw [e1, e2]
  refine ⟨Nat.le_trans (Nat.mul_le_mul_right _ (by omega)) h1, Nat.lt_of_lt_of_le h2 (Nat.mul_le_mul_right _ (by omega))⟩
theorem valD_eq : ∀ (l : List UInt8) (acc : Nat), valD acc l = acc * 10 ^ l.length + valD 0 l
 | [], acc => by simp [valD_nil]
 | c :: r, acc => by
  rw [valD_cons]; simp only [List.length_cons, Nat.pow_succ]
  rw [valD_cons c r 0, valD_eq r (acc * 10 + (c.toNat - 48)), valD_eq r (0 * 10 + (c.toNat - 48)), Nat.add_mul, Nat.zero_mul, Nat.zero_add, Nat.add_assoc]
  congr 1
  rw [Nat.mul_comm (10 ^ r.length) 10, Nat.mul_assoc]
theorem parse_val : ∀ (l : List UInt8) (acc : Nat), (∀ b ∈ l, isDig b = true) → (acc + 1) * 10 ^ l.length ≤ 10000000000 → Lib.parseUint10 acc l = .ok (valD acc l)
 | [], acc, _, _ => rfl
 | c :: r, acc, h, hb => by
  have hc := isDig_iff.1 (h c List.mem_cons_self)
  have hp : 1 ≤ 10 ^ r.length := Nat.pow_pos (by omega)
  have e2 : (acc + 1) * 10 ^ (c :: r).length = ((acc + 1) * 10) * 10 ^ r.length := by simp only [List.length_cons, Nat.pow_succ]; rw [Nat.mul_comm (10 ^ r.length) 10, Nat.mul_assoc]
  rw [e2] at hb
  have h3 : (acc + 1) * 10 ≤ 10000000000 := Nat.le_trans (Nat.le_mul_of_pos_right _ hp) hb
  simp only [Lib.parseUint10, valD_cons]
  rw [if_pos hc, if_neg (by omega), if_neg (by omega)]
  exact parse_val r _ (fun b hb => h b (List.mem_cons_of_mem _ hb)) (Nat.le_trans (Nat.mul_le_mul_right _ (by omega)) hb)
theorem atoi_digits {l : List UInt8} (h : ∀ b ∈ l, isDig b = true) (h1 : l ≠ []) (h2 : l.length ≤ 10) : Lib.atoiAll l = .ok (valD 0 l : Nat) := by
 cases l with
 | nil => exact absurd rfl h1
 | cons c r =>
  have hc := isDig_iff.1 (h c List.mem_cons_self)
  have hb : (0 + 1) * 10 ^ (c :: r).length ≤ 10000000000 := by
   have : 10 ^ (c :: r).length ≤ 10 ^ 10 := Nat.pow_le_pow_right (by omega) h2
   omega
  have hp := parse_val (c :: r) 0 h hb
  have hlt := (valD_bounds (c :: r) 0 h).2
  rw [Lib.atoiAll_plain c r (by omega) (by omega)]
  unfold Lib.parseMag
  rw [if_neg (by simp), hp]
  simp only [Lib.signless]
  rw [if_neg (by omega)]
theorem atoi_minus {l : List UInt8} (h : ∀ b ∈ l, isDig b = true) (h1 : l ≠ []) (h2 : l.length ≤ 10) : Lib.atoiAll (45 :: l) = .ok (-(valD 0 l : Nat) : Int) := by
 have hb : (0 + 1) * 10 ^ l.length ≤ 10000000000 := by
  have : 10 ^ l.length ≤ 10 ^ 10 := Nat.pow_le_pow_right (by omega) h2
  omega
 have hp := parse_val l 0 h hb
 have hlt := (valD_bounds l 0 h).2
 rw [Lib.atoiAll_minus]
 unfold Lib.parseMag
 rw [if_neg h1, hp]
 simp only [Lib.signed]
 rw [if_neg (by omega)]
def trimZ : List UInt8 → List UInt8
 | [] => []
 | [c] => [c]
 | c :: d :: r => if c = 48 then trimZ (d :: r) else c :: d :: r
theorem trimZ_val : ∀ (l : List UInt8), valD 0 (trimZ l) = valD 0 l
 | [] => rfl
 | [c] => rfl
 | c :: d :: r => by
  unfold trimZ
  split
  ·rename_i hc
   rw [trimZ_val (d :: r)]
   subst hc
   rfl
  ·rfl
theorem trimZ_mem : ∀ (l : List UInt8), ∀ b ∈ trimZ l, b ∈ l
 | [], b, hb => hb
 | [c], b, hb => hb
 | c :: d :: r, b, hb => by
  unfold trimZ at hb
  split at hb
  ·exact List.mem_cons_of_mem _ (trimZ_mem (d :: r) b hb)
  ·exact hb
theorem trimZ_len : ∀ (l : List UInt8), (trimZ l).length ≤ l.length
 | [] => Nat.le_refl _
 | [c] => Nat.le_refl _
 | c :: d :: r => by
  unfold trimZ
  split
  ·have := trimZ_len (d :: r)
   simp only [List.length_cons] at this ⊢
   omega
  ·exact Nat.le_refl _
def lean0 (l : List UInt8) : Prop := l.length = 1 ∨ ∃ c r, l = c :: r ∧ c ≠ 48
theorem trimZ_lean : ∀ (l : List UInt8), l ≠ [] → lean0 (trimZ l)
 | [], h => absurd rfl h
 | [c], _ => Or.inl rfl
 | c :: d :: r, _ => by
  unfold trimZ
  split
  ·exact trimZ_lean (d :: r) (by simp)
  ·rename_i hc
   exact Or.inr ⟨c, _, rfl, hc⟩
theorem valD_pos {c : UInt8} {r : List UInt8} (h : ∀ b ∈ c :: r, isDig b = true) (hc : c ≠ 48) : 1 ≤ valD 0 (c :: r) := by
 have h1 := isDig_iff.1 (h c List.mem_cons_self)
 have h2 := (valD_bounds r (0 * 10 + (c.toNat - 48)) (fun b hb => h b (List.mem_cons_of_mem _ hb))).1
 have hp : 1 ≤ 10 ^ r.length := Nat.pow_pos (by omega)
 have h3 : c.toNat ≠ 48 := fun e => hc (UInt8.toNat.inj (by rw [e]; rfl))
 have h4 : 1 ≤ (0 * 10 + (c.toNat - 48)) * 10 ^ r.length := Nat.one_le_iff_ne_zero.2 (Nat.mul_ne_zero (by omega) (by omega))
 simp only [valD_cons, valD_nil]
 omega
theorem dec_app {u d : Nat} (hu : 1 ≤ u) (hd : d ≤ 9) : Lib.decDigits (u * 10 + d) = Lib.decDigits u ++ [UInt8.ofNat (48 + d)] := by
 rw [Lib.decDigits, dif_neg (by omega)]
 have e1 : (u * 10 + d) / 10 = u := by omega
 have e2 : (u * 10 + d) % 10 = d := by omega
 rw [e1, e2]
theorem ofNat_dig {c : UInt8} (h : isDig c = true) : UInt8.ofNat (48 + (c.toNat - 48)) = c := by
 have h1 := isDig_iff.1 h
 have : 48 + (c.toNat - 48) = c.toNat := by omega
 rw [this]; simp
theorem dec_val : ∀ (n : Nat) (l : List UInt8), l.length = n → (∀ b ∈ l, isDig b = true) → lean0 l → Lib.decDigits (valD 0 l) = l := by
 intro n
 induction n with
 | zero =>
  intro l hn _ hl
  rcases hl with h | ⟨c, r, rfl, _⟩
  ·omega
  ·simp at hn
 | succ n ih =>
  intro l hn hd hl
  have hne : l ≠ [] := by intro h; subst h; simp at hn
  have hsp := List.dropLast_concat_getLast hne
  have hc : isDig (l.getLast hne) = true := hd _ (List.getLast_mem hne)
  have hc' := isDig_iff.1 hc
  by_cases h0 : l.dropLast = []
  ·rw [h0, List.nil_append] at hsp
   rw [← hsp]
   simp only [valD_cons, valD_nil]
   rw [Lib.decDigits_one (by omega), Nat.zero_mul, Nat.zero_add, ofNat_dig hc]
  ·rcases hl with h | ⟨c, r, e, hne2⟩
   ·exfalso
    apply h0
    apply List.eq_nil_of_length_eq_zero
    rw [List.length_dropLast]
    omega
   ·have hdl : ∀ b ∈ l.dropLast, isDig b = true := fun b hb => hd b (List.dropLast_subset _ hb)
    have hll : ∃ r', l.dropLast = c :: r' := by
     rw [e] at h0 ⊢
     cases r with
     | nil => simp at h0
     | cons d r => exact ⟨_, rfl⟩
    obtain ⟨r', hr'⟩ := hll
    have hp : 1 ≤ valD 0 l.dropLast := by rw [hr'] at hdl ⊢; exact valD_pos hdl hne2
    have := ih l.dropLast (by rw [List.length_dropLast]; omega) hdl (Or.inr ⟨c, r', hr', hne2⟩)
    rw [← hsp, valD_app, dec_app hp (by omega), this, ofNat_dig hc]
theorem itoa_val {l : List UInt8} (h : ∀ b ∈ l, isDig b = true) (h1 : l ≠ []) : Lib.itoa (valD 0 l : Nat) = trimZ l := by
 unfold Lib.itoa
 rw [if_neg (by omega)]
 have e : ((valD 0 l : Nat) : Int).toNat = valD 0 (trimZ l) := by rw [trimZ_val]; omega
 rw [e]
 exact dec_val _ _ rfl (fun b hb => h b (trimZ_mem l b hb)) (trimZ_lean l h1)
end Go.Abs

set_option linter.unusedVariables false
set_option linter.unusedSimpArgs false
set_option maxRecDepth 100000
namespace Go.Abs
open Go Go.Proofs
section
variable {s : List UInt8} {n : Nat}
theorem atC_free : atC false s n = (s[n]?).getD 0 := rfl
theorem atE_free : atE false s n = if n < s.length then n + 1 else n := rfl
theorem runL_free {p : UInt8 → Bool} (hp : p 0 = false) : ∀ (l : List UInt8), runL false p l 0 = (l.takeWhile p, (l.takeWhile p).length)
 | [] => rfl
 | c :: r => by
  have ih := runL_free hp r
  unfold runL
  rw [ih]
  by_cases h0 : c = 0
  ·subst h0
   simp [hp]
  ·have h1 : (c != 0) = true := by simp [h0]
   cases hc : p c
   ·simp [hc]
   ·simp [hc, h1]; omega
theorem runC_free {p : UInt8 → Bool} (hp : p 0 = false) : runC false p s n = (s.drop n).takeWhile p := by unfold runC; rw [runL_free hp]
theorem runE_free {p : UInt8 → Bool} (hp : p 0 = false) : runE false p s n = n + ((s.drop n).takeWhile p).length := by unfold runE; rw [runL_free hp]
theorem isLet0 : isLet 0 = false := by decide
theorem isDig0 : isDig 0 = false := by decide
theorem isPar0 : isPar 0 = false := by decide
def beginsR (s : List UInt8) (n : Nat) (w : List UInt8) : Bool := decide (n + w.length ≤ s.length) && decide (((s.drop n).take w.length).map upB = w)
def digR (s : List UInt8) (n : Nat) : Nat := ((s.drop n).takeWhile isDig).length
theorem digR_eq : runC false isDig s n = (s.drop n).take (digR s n) ∧ runE false isDig s n = n + digR s n := by
 rw [runC_free isDig0, runE_free isDig0]
 refine ⟨?_, rfl⟩
 unfold digR
 exact (List.prefix_iff_eq_take.1 (List.takeWhile_prefix _))
def isWord (w : List UInt8) : Prop := ∃ v, w = 46 :: v ++ [46] ∧ ∀ b ∈ v, 65 ≤ b.toNat ∧ b.toNat ≤ 90
theorem upB_fin : ∀ i : Fin 256, (upB (UInt8.ofNat i.val) = 46 → i.val = 46) ∧ (65 ≤ (upB (UInt8.ofNat i.val)).toNat ∧ (upB (UInt8.ofNat i.val)).toNat ≤ 90 → isLet (UInt8.ofNat i.val) = true) := by decide
theorem upB_dot {c : UInt8} (h : upB c = 46) : c = 46 := by
 have := (upB_fin ⟨c.toNat, c.toNat_lt⟩).1 (by simpa using h)
 exact UInt8.toNat.inj this
theorem upB_let {c : UInt8} (h : 65 ≤ (upB c).toNat ∧ (upB c).toNat ≤ 90) : isLet c = true := by
 have := (upB_fin ⟨c.toNat, c.toNat_lt⟩).2 (by simpa using h)
 simpa using this
theorem takeWhile_all {p : UInt8 → Bool} : ∀ (l : List UInt8), ∀ c ∈ l.takeWhile p, p c = true
 | [], c, h => by simp at h
 | d :: r, c, h => by
  rw [List.takeWhile_cons] at h
  split at h
  ·rename_i hd
   rcases List.mem_cons.1 h with rfl | h
   ·exact hd
   ·exact takeWhile_all r c h
  ·simp at h
theorem takeWhile_word {p : UInt8 → Bool} {d : UInt8} (hd : p d = false) : ∀ (v r : List UInt8), (∀ b ∈ v, p b = true) → (v ++ d :: r).takeWhile p = v
 | [], r, _ => by simp [hd]
 | c :: v, r, h => by
  have hc := h c List.mem_cons_self
  rw [List.cons_append, List.takeWhile_cons, hc]
  simp only [if_true]
  rw [takeWhile_word hd v r (fun b hb => h b (List.mem_cons_of_mem _ hb))]
theorem map_split {v w : List UInt8} : ∀ {l : List UInt8}, l.map upB = v ++ w → ∃ a b, l = a ++ b ∧ a.map upB = v ∧ b.map upB = w := by
 intro l h
 obtain ⟨a, b, e, h1, h2⟩ := List.map_eq_append_iff.1 h
 exact ⟨a, b, e, h1, h2⟩
theorem begins_dotted {w : List UInt8} (hw : isWord w) (h : beginsR s n w = true) : atC false s n = 46 ∧ dotText false s n = w ∧ atC false s (runE false isLet s (atE false s n)) = 46 ∧ dotEnd false s n = n + w.length := by
 obtain ⟨v, rfl, hv⟩ := hw
 simp only [beginsR, Bool.and_eq_true, decide_eq_true_eq] at h
 obtain ⟨hlen, hm⟩ := h
 rw [List.cons_append] at hm hlen
 simp only [List.length_cons, List.length_append, List.length_nil] at hlen hm
 obtain ⟨a, b, he, ha, hb⟩ := map_split (v := [46]) (w := v ++ [46]) hm
 obtain ⟨b1, b2, he2, hb1, hb2⟩ := map_split hb
 obtain ⟨x, rfl⟩ : ∃ x, a = [x] := by
  cases a with
  | nil => simp at ha
  | cons x t => cases t with
   | nil => exact ⟨x, rfl⟩
   | cons y t => simp at ha
 obtain ⟨y, rfl⟩ : ∃ y, b2 = [y] := by
  cases b2 with
  | nil => simp at hb2
  | cons x t => cases t with
   | nil => exact ⟨x, rfl⟩
   | cons y t => simp at hb2
 have hx : x = 46 := upB_dot (by simpa using ha)
 have hy : y = 46 := upB_dot (by simpa using hb2)
 subst hx hy
 have hb1l : b1.length = v.length := by rw [← hb1, List.length_map]
 have hlet : ∀ c ∈ b1, isLet c = true := by
  intro c hc
  exact upB_let (hv _ (by rw [← hb1]; exact List.mem_map_of_mem hc))
 have hd : s.drop n = 46 :: (b1 ++ 46 :: (s.drop (n + v.length + 2))) := by
  have h1 := List.take_append_drop (v.length + (0 + 1) + 1) (s.drop n)
  rw [he, he2, List.drop_drop] at h1
  rw [← h1]
  simp only [List.cons_append, List.nil_append, List.append_assoc]
  congr 4
 have hn : n < s.length := by omega
 have h0 : s[n]? = some 46 := by
  have : (s.drop n)[0]? = some 46 := by rw [hd]; rfl
  rw [List.getElem?_drop] at this
  simpa using this
 have hd1 : s.drop (n + 1) = b1 ++ 46 :: (s.drop (n + v.length + 2)) := by
  have : (s.drop n).drop 1 = b1 ++ 46 :: (s.drop (n + v.length + 2)) := by rw [hd]; rfl
  rw [List.drop_drop] at this
  exact this
 have hr : (s.drop (n + 1)).takeWhile isLet = b1 := by rw [hd1]; exact takeWhile_word (by decide) _ _ hlet
 have hE : atE false s n = n + 1 := by rw [atE_free, if_pos hn]
 have hR : runE false isLet s (n + 1) = n + 1 + v.length := by rw [runE_free isLet0, hr, hb1l]
 have h46 : s[n + 1 + v.length]? = some 46 := by
  have : (s.drop (n + 1))[b1.length]? = some 46 := by rw [hd1, List.getElem?_append_right (Nat.le_refl _), Nat.sub_self]; rfl
  rw [List.getElem?_drop, hb1l] at this
  exact this
 refine ⟨by rw [atC_free, h0]; rfl, ?_, ?_, ?_⟩
 ·unfold dotText
  rw [hE, runC_free isLet0, hr]
  have : up b1 = v := by
   unfold up
   rw [up_ascii b1 (fun b hb => isLet_ascii (hlet b hb)), hb1]
  rw [this]; rfl
 ·rw [hE, hR, atC_free, h46]; rfl
 ·unfold dotEnd
  rw [hE, hR, atE_free, if_pos (by omega)]
  simp only [List.length_append, List.length_cons, List.length_nil]
  omega
theorem dotted_begins {w : List UInt8} (h0 : atC false s n = 46) (h1 : dotText false s n = w) (h2 : atC false s (runE false isLet s (atE false s n)) = 46) : beginsR s n w = true := by
 have hn : n < s.length := by
  rcases Nat.lt_or_ge n s.length with h | h
  ·exact h
  ·rw [atC_free, List.getElem?_eq_none h] at h0; simp at h0
 have hE : atE false s n = n + 1 := by rw [atE_free, if_pos hn]
 rw [hE, runE_free isLet0, atC_free] at h2
 have hg : s[n]? = some 46 := by
  rw [atC_free, List.getElem?_eq_getElem hn] at h0
  rw [List.getElem?_eq_getElem hn]
  simpa using h0
 have hd : s.drop n = 46 :: s.drop (n + 1) := by
  rw [List.drop_eq_getElem_cons hn]
  rw [List.getElem?_eq_getElem hn] at hg
  injection hg with hg
  rw [hg]
 obtain ⟨v, hv⟩ : ∃ v, v = (s.drop (n + 1)).takeWhile isLet := ⟨_, rfl⟩
 rw [← hv] at h2
 have hm : n + 1 + v.length < s.length := by
  rcases Nat.lt_or_ge (n + 1 + v.length) s.length with h | h
  ·exact h
  ·rw [List.getElem?_eq_none h] at h2; simp at h2
 have hg2 : s[n + 1 + v.length] = 46 := by
  rw [List.getElem?_eq_getElem hm] at h2
  simpa using h2
 have hp : s.drop (n + 1) = v ++ s.drop (n + 1 + v.length) := by
  have h3 : v <+: s.drop (n + 1) := by rw [hv]; exact List.takeWhile_prefix _
  have h4 := List.prefix_iff_eq_append.1 h3
  rw [List.drop_drop] at h4
  exact h4.symm
 have hd2 : s.drop (n + 1 + v.length) = 46 :: s.drop (n + 1 + v.length + 1) := by rw [List.drop_eq_getElem_cons hm, hg2]
 have hlet : ∀ c ∈ v, isLet c = true := by
  intro c hc
  rw [hv] at hc
  exact takeWhile_all _ c hc
 have hT : dotText false s n = [46] ++ v.map upB ++ [46] := by
  unfold dotText
  rw [hE, runC_free isLet0, ← hv]
  unfold up
  rw [up_ascii v (fun b hb => isLet_ascii (hlet b hb))]
 have hwl : w.length = v.length + 2 := by rw [← h1, hT]; simp
 simp only [beginsR, Bool.and_eq_true, decide_eq_true_eq]
 refine ⟨by omega, ?_⟩
 rw [hwl, hd, hp, hd2]
 have e : (46 :: (v ++ 46 :: s.drop (n + 1 + v.length + 1))) = (46 :: v ++ [46]) ++ s.drop (n + 1 + v.length + 1) := by simp
 rw [e, List.take_left' (by simp), ← h1, hT]
 simp [upB]
end
end Go.Abs

set_option linter.unusedVariables false
set_option linter.unusedSimpArgs false
set_option maxRecDepth 100000
namespace Go.Abs
open Go Go.Proofs
section
variable {μ : Mu}
theorem lt_t {n m : Nat} (h : n < m) : decide ((n : Int) < (m : Int)) = true := by simp; omega
theorem lt_f {n m : Nat} (h : m ≤ n) : decide ((n : Int) < (m : Int)) = false := by simp; omega
theorem le_t {n m : Nat} (h : n ≤ m) : decide ((n : Int) ≤ (m : Int)) = true := by simp; omega
theorem le_f {n m : Nat} (h : m < n) : decide ((n : Int) ≤ (m : Int)) = false := by simp; omega
theorem strAt_lt {s : List UInt8} {n : Nat} (h : n < s.length) : strAt s (n : Int) = some s[n] := by rw [strAt_get, List.getElem?_eq_getElem h]
theorem wsucc {n : Nat} (h : n ≤ 1000000000) : IntKind.wrap .i64 ((n : Int) + 1) = ((n + 1 : Nat) : Int) := by rw [wrap64 (by omega) (by omega)]; omega
theorem wadd {n m : Nat} (h : n + m ≤ 1000000000) : IntKind.wrap .i64 ((n : Int) + (m : Int)) = ((n + m : Nat) : Int) := by rw [wrap64 (by omega) (by omega)]; omega
theorem wsub {n m : Nat} (h : n ≤ 1000000000) (h2 : m ≤ n) : IntKind.wrap .i64 ((n : Int) - (m : Int)) = ((n - m : Nat) : Int) := by rw [wrap64 (by omega) (by omega)]; omega
theorem wpred {n : Nat} (h : n ≤ 1000000000) (h2 : 1 ≤ n) : IntKind.wrap .i64 ((n : Int) - 1) = ((n - 1 : Nat) : Int) := by rw [wrap64 (by omega) (by omega)]; omega
theorem cut1 {s : List UInt8} {n : Nat} (h : n < s.length) : cutA s (n : Int) ((n + 1 : Nat) : Int) = some [s[n]] := by
 rw [cutA_ok (by omega) (by omega), List.drop_eq_getElem_cons h]
 have : n + 1 - n = 1 := by omega
 rw [this]
 rfl
theorem law67 {c : UInt8} : (ev E).call 67 [LV.int .u8 (c.toNat : Int)] μ = some (.ret (LV.bool (isDig c)) μ) := by
 refine ev_call ?_
 rw [nf67]
 have e1 : decide ((48 : Int) ≤ (c.toNat : Int)) = decide (48 ≤ c.toNat) := dI 48 _
 have e2 : decide ((c.toNat : Int) ≤ 57) = decide (c.toNat ≤ 57) := dI _ 57
 rw [e1, e2]
 unfold isDig
 cases decide (48 ≤ c.toNat) <;> rfl
theorem law96 {c : UInt8} : (ev E).call 96 [LV.int .u8 (c.toNat : Int)] μ = some (.ret (LV.bool (isLet c)) μ) := by
 refine ev_call ?_
 rw [nf96]
 have e1 : decide ((97 : Int) ≤ (c.toNat : Int)) = decide (97 ≤ c.toNat) := dI 97 _
 have e2 : decide ((c.toNat : Int) ≤ 122) = decide (c.toNat ≤ 122) := dI _ 122
 have e3 : decide ((65 : Int) ≤ (c.toNat : Int)) = decide (65 ≤ c.toNat) := dI 65 _
 have e4 : decide ((c.toNat : Int) ≤ 90) = decide (c.toNat ≤ 90) := dI _ 90
 rw [e1, e2, e3, e4]
 unfold isLet
 cases decide (97 ≤ c.toNat) <;> cases decide (c.toNat ≤ 122) <;> cases decide (65 ≤ c.toNat) <;> cases decide (c.toNat ≤ 90) <;> rfl
theorem law23 {a b c : Int} : (ev E).call 23 [LV.int .i64 a, LV.int .i64 b, LV.int .i64 c] μ = some (.ret (LV.bool (decide (b ≤ a) && decide (a ≤ c))) μ) := by
 refine ev_call ?_
 rw [nf23]
 by_cases h : a < b
 ·have h1 : decide (a < b) = true := by simp [h]
  have h2 : decide (b ≤ a) = false := by simp; omega
  rw [h1, h2]; rfl
 ·have h1 : decide (a < b) = false := by simp; omega
  have h2 : decide (b ≤ a) = true := by simp; omega
  have h3 : (!decide (c < a)) = decide (a ≤ c) := by
   by_cases h4 : c < a
   ·have : ¬ a ≤ c := by omega
    simp [h4, this]
   ·have : a ≤ c := by omega
    simp [h4, this]
  rw [h1, h2, h3]; rfl
theorem loop97 : ∀ (k : Nat) (p l : List UInt8), l.length = k → p.length + k ≤ 1000000 →
  L97_3 (ev E) (p.length + k) (p.length : Int) (bytesCV (p ++ l)) μ = some (XL97_3_0 (p.length + k) (bytesCV (p ++ l.map upB)) μ) := by
 intro k
 induction k with
 | zero =>
  intro p l hl hp
  have : l = [] := List.eq_nil_of_length_eq_zero hl
  subst this
  refine ev_loop ?_
  rw [nfL97_3, lt_f (by omega), cond_false]
  rfl
 | succ k ih =>
  intro p l hl hp
  cases l with
  | nil => simp at hl
  | cons c r =>
   simp only [List.length_cons] at hl
   refine ev_loop ?_
   have hr : inRange (p.length : Int) (p.length + (k + 1)) = true := by simp [inRange]; omega
   have ho : obRead E.P 5 (Ob.arr 1 (bytesCV (p ++ c :: r))) (0 + ((p.length : Int)).toNat * 1) = some (LV.int .u8 (c.toNat : Int)) := by
    have e1 : 0 + ((p.length : Int)).toNat * 1 = p.length := by omega
    rw [e1]
    have e2 : obRead E.P 5 (Ob.arr 1 (bytesCV (p ++ c :: r))) p.length = opt ((bytesCV (p ++ c :: r))[p.length]?) fun c => some (.cv c) := by kernel_rfl
    have e3 : (bytesCV (p ++ c :: r))[p.length]? = some (CV.int .u8 (c.toNat : Int)) := by
     unfold bytesCV
     rw [List.getElem?_map, List.getElem?_append_right (Nat.le_refl _), Nat.sub_self]
     rfl
    rw [e2, e3]
    rfl
   have hn : L97_3 (ev E) (p.length + (k + 1)) (IntKind.wrap .i64 ((p.length : Int) + 1)) (bytesCV (p ++ upB c :: r)) μ = some (XL97_3_0 (p.length + (k + 1)) (bytesCV (p ++ (c :: r).map upB)) μ) := by
    have := ih (p ++ [upB c]) r (by omega) (by simp; omega)
    have e1 : (p ++ [upB c]).length + k = p.length + (k + 1) := by simp; omega
    have e2 : (((p ++ [upB c]).length : Nat) : Int) = ((p.length + 1 : Nat) : Int) := by simp
    rw [e1, e2] at this
    rw [wsucc (by omega)]
    have e3 : p ++ [upB c] ++ r = p ++ upB c :: r := by simp
    have e4 : p ++ [upB c] ++ r.map upB = p ++ (c :: r).map upB := by simp
    rw [e3, e4] at this
    exact this
   rw [nfL97_3, lt_t (by omega), cond_true, hr, gB_t, ho]
   simp only [callK_ret, getTup_t, opt_s, uncons_c, getInt_i, getStr_s, getBool_b, isNilL_n, gB_t, cond_true, cond_false, Bool.not_true, Bool.not_false, getSl_s, getSl_o, getOsl_o]
   have e1 : decide ((97 : Int) ≤ (c.toNat : Int)) = decide (97 ≤ c.toNat) := dI 97 _
   have e2 : decide ((c.toNat : Int) ≤ 122) = decide (c.toNat ≤ 122) := dI _ 122
   rw [e1, e2]
   by_cases h1 : 97 ≤ c.toNat
   ·by_cases h2 : c.toNat ≤ 122
    ·have hu : upB c = c - 32 := by unfold upB; rw [if_pos ⟨h1, h2⟩]
     have hc : (c - 32).toNat = c.toNat - 32 := by
      rw [UInt8.toNat_sub_of_le]
      ·rfl
      ·rw [UInt8.le_iff_toNat_le]; show 32 ≤ c.toNat; omega
     have w1 : IntKind.wrap .u8 ((c.toNat : Int) - 97) = (c.toNat : Int) - 97 := wrap8 (by omega) (by omega)
     have w2 : IntKind.wrap .u8 ((c.toNat : Int) - 97 + 65) = ((upB c).toNat : Int) := by rw [wrap8 (by omega) (by omega), hu, hc]; omega
     have hs : setRange (bytesCV (p ++ c :: r)) (0 + ((p.length : Int)).toNat * 1) (CV.cells (CV.int .u8 ((upB c).toNat : Int))) = bytesCV (p ++ upB c :: r) := by
      have e1 : 0 + ((p.length : Int)).toNat * 1 = p.length := by omega
      rw [e1]
      show ((bytesCV (p ++ c :: r)).set p.length (CV.int .u8 ((upB c).toNat : Int))) = _
      unfold bytesCV
      rw [List.map_append, List.map_append, List.set_append, if_neg (by simp)]
      simp
     have hg : (elemOK 1 (CV.int .u8 ((upB c).toNat : Int)) && Nat.ble (0 + ((p.length : Int)).toNat * 1 + 1) (bytesCV (p ++ c :: r)).length) = true := by
      have e1 : 0 + ((p.length : Int)).toNat * 1 + 1 = p.length + 1 := by omega
      rw [e1, bytesCV_len]
      have : elemOK 1 (CV.int .u8 ((upB c).toNat : Int)) = true := rfl
      rw [this, Bool.true_and]
      simp
     simp only [h1, h2, decide_true, callK_ret, getTup_t, opt_s, uncons_c, getInt_i, getStr_s, getBool_b, isNilL_n, gB_t, cond_true, cond_false, Bool.not_true, Bool.not_false, getSl_s, getSl_o, getOsl_o, hr]
     rw [w1, w2, hg, gB_t, hs, hn]
    ·have hu : upB c = c := by unfold upB; rw [if_neg (by omega)]
     rw [hu] at hn
     simp only [h1, h2, decide_true, decide_false, callK_ret, getTup_t, opt_s, uncons_c, getInt_i, getStr_s, getBool_b, isNilL_n, gB_t, cond_true, cond_false, Bool.not_true, Bool.not_false, getSl_s, getSl_o, getOsl_o, hr]
     rw [hn]
   ·have hu : upB c = c := by unfold upB; rw [if_neg (by omega)]
    rw [hu] at hn
    simp only [h1, decide_false, callK_ret, getTup_t, opt_s, uncons_c, getInt_i, getStr_s, getBool_b, isNilL_n, gB_t, cond_true, cond_false, Bool.not_true, Bool.not_false, getSl_s, getSl_o, getOsl_o]
    rw [hn]
theorem law97 {s : List UInt8} (hs : s.length ≤ 1000000) : (ev E).call 97 [LV.str s] μ = some (.ret (LV.str (s.map upB)) μ) := by
 refine ev_call ?_
 have := loop97 (μ := μ) s.length [] s rfl (by simpa using hs)
 simp only [List.length_nil, Nat.zero_add, List.nil_append] at this
 have e0 : ((0 : Nat) : Int) = 0 := rfl
 rw [e0] at this
 rw [nf97, small_le (by omega), gB_t, this, opt_s, nfXL97_3_0]
 have h1 : (List.take s.length (List.drop 0 (bytesCV (s.map upB)))) = bytesCV (s.map upB) := by
  rw [List.drop_zero, List.take_of_length_le]
  rw [bytesCV_len, List.length_map]; exact Nat.le_refl _
 have h2 : Nat.ble (0 + s.length) (bytesCV (s.map upB)).length = true := by rw [bytesCV_len, List.length_map]; simp
 rw [h1, h2, gB_t, byteCells_bytesCV, opt_s]
theorem law99 {s w : List UInt8} {n : Nat} (hs : s.length ≤ 200000) (hn : n ≤ s.length) (hw : w.length ≤ 200000) : (ev E).call 99 [LV.str s, LV.int .i64 (n : Int), LV.str w] μ = some (.ret (LV.bool (beginsR s n w)) μ) := by
 refine ev_call ?_
 rw [nf99, wadd (by omega)]
 unfold beginsR
 by_cases h : n + w.length ≤ s.length
 ·rw [le_t h, cond_true, cutA_ok (by omega) h, opt_s]
  have e : n + w.length - n = w.length := by omega
  rw [e, law97 (by simp; omega)]
  simp only [callK_ret, getTup_t, opt_s, uncons_c, getInt_i, getStr_s, getBool_b, isNilL_n, gB_t, cond_true, cond_false, Bool.not_true, Bool.not_false, getSl_s, getSl_o, getOsl_o]
  simp [h]
 ·rw [le_f (by omega), cond_false]
  simp [h]
theorem loop47 {s : List UInt8} (hs : s.length ≤ 200000) {n : Nat} (hn : n ≤ s.length) : ∀ (k m : Nat), n + m + k = s.length → L47_2 (ev E) s (n : Int) (m : Int) μ = some (XL47_2_0 ((m + digR s (n + m) : Nat) : Int) μ) := by
 intro k
 induction k with
 | zero =>
  intro m hm
  refine ev_loop ?_
  rw [nfL47_2, wadd (by omega), lt_f (by omega), cond_false]
  have : s.drop (n + m) = [] := List.drop_eq_nil_of_le (by omega)
  simp [digR, this]
 | succ k ih =>
  intro m hm
  refine ev_loop ?_
  have hlt : n + m < s.length := by omega
  rw [nfL47_2, wadd (by omega), lt_t (by omega), cond_true, strAt_lt hlt, opt_s, law67]
  simp only [callK_ret, getTup_t, opt_s, uncons_c, getInt_i, getStr_s, getBool_b, isNilL_n, gB_t, cond_true, cond_false, Bool.not_true, Bool.not_false, getSl_s, getSl_o, getOsl_o]
  have hd : s.drop (n + m) = s[n + m] :: s.drop (n + m + 1) := List.drop_eq_getElem_cons hlt
  cases hc : isDig s[n + m] with
  | true =>
   rw [cond_true, wsucc (by omega), ih (m + 1) (by omega)]
   unfold digR
   rw [hd, List.takeWhile_cons, hc]
   simp only [if_true, List.length_cons]
   have : n + (m + 1) = n + m + 1 := by omega
   rw [this]
   congr 3
   omega
  | false =>
   rw [cond_false]
   unfold digR
   rw [hd, List.takeWhile_cons, hc]
   simp
theorem law47 {s : List UInt8} (hs : s.length ≤ 200000) {n : Nat} (hn : n ≤ s.length) : (ev E).call 47 [LV.str s, LV.int .i64 (n : Int)] μ = some (.ret (LV.int .i64 (digR s n : Nat)) μ) := by
 refine ev_call ?_
 have := loop47 (μ := μ) hs hn (s.length - n) 0 (by omega)
 have e0 : ((0 : Nat) : Int) = 0 := rfl
 rw [e0, Nat.zero_add, Nat.add_zero] at this
 rw [nf47, this, opt_s, nfXL47_2_0]
theorem digR_le {s : List UInt8} {n : Nat} (hn : n ≤ s.length) : n + digR s n ≤ s.length := by
 unfold digR
 have := (List.takeWhile_sublist isDig (l := s.drop n)).length_le
 rw [List.length_drop] at this
 omega
theorem law70 {t : List UInt8} : (ev E).call 70 [LV.str t] μ = some (.ret (LV.str (orZero t)) μ) := by
 refine ev_call ?_
 rw [nf70]
 unfold orZero
 by_cases h : t = [] <;> simp [h]
theorem loop69 : ∀ (s : List UInt8), s.length ≤ 1000000 → L69_1 (ev E) s μ = some (XL69_1_0 (trimZ s) μ)
 | [], _ => ev_loop (by rw [nfL69_1]; rfl)
 | [c], _ => ev_loop (by rw [nfL69_1]; rfl)
 | c :: d :: r, h => by
  have e48 : ∀ c : UInt8, decide ((c.toNat : Int) = 48) = decide (c = 48) := fun c => u8_eq (k := 48) (by omega)
  simp only [List.length_cons] at h
  refine ev_loop ?_
  have h1 : decide ((1 : Int) < ((c :: d :: r).length : Int)) = true := by simp; omega
  have h2 : strAt (c :: d :: r) (0 : Int) = some c := rfl
  have h3 := cutA_end (l := c :: d :: r) (a := 1) (by simp)
  have e1 : ((1 : Nat) : Int) = 1 := rfl
  rw [e1] at h3
  rw [nfL69_1, h1, cond_true, h2, opt_s, e48, h3, opt_s]
  unfold trimZ
  by_cases hc : c = 48
  ·have : decide (c = 48) = true := by simp [hc]
   rw [this, cond_true, if_pos hc]
   exact loop69 (d :: r) (by simp; omega)
  ·have : decide (c = 48) = false := by simp [hc]
   rw [this, cond_false, if_neg hc]
theorem law69 {s : List UInt8} (hs : s.length ≤ 1000000) : (ev E).call 69 [LV.str s] μ = some (.ret (LV.str (trimZ s)) μ) := by
 refine ev_call ?_
 rw [nf69, loop69 s hs, opt_s, nfXL69_1_0]
def trimZr (s : List UInt8) : List UInt8 := (trimZ s.reverse).reverse
theorem loop134 : ∀ (k : Nat) (s : List UInt8), s.length = k → s.length ≤ 1000000 → L134_1 (ev E) s μ = some (XL134_1_0 (trimZr s) μ) := by
 have e48 : ∀ c : UInt8, decide ((c.toNat : Int) = 48) = decide (c = 48) := fun c => u8_eq (k := 48) (by omega)
 intro k
 induction k with
 | zero =>
  intro s hk h
  have : s = [] := List.eq_nil_of_length_eq_zero hk
  subst this
  exact ev_loop (by rw [nfL134_1]; rfl)
 | succ k ih =>
  intro s hk h
  refine ev_loop ?_
  have hne : s ≠ [] := by intro e; subst e; simp at hk
  have hsp := List.dropLast_concat_getLast hne
  have hrev : s.reverse = s.getLast hne :: s.dropLast.reverse := by
   conv => lhs; rw [← hsp]
   simp
  by_cases h1 : 1 < s.length
  ·have e1 : decide ((1 : Int) < (s.length : Int)) = true := by simp; omega
   have hdl : s.dropLast.length = s.length - 1 := List.length_dropLast
   obtain ⟨d, r, hr⟩ : ∃ d r, s.dropLast.reverse = d :: r := by
    cases hx : s.dropLast.reverse with
    | nil =>
     have : s.dropLast.length = 0 := by rw [← List.length_reverse, hx]; rfl
     omega
    | cons d r => exact ⟨d, r, rfl⟩
   have hl : strAt s ((s.length - 1 : Nat) : Int) = some (s.getLast hne) := by rw [strAt_lt (by omega), List.getLast_eq_getElem]
   have hcut : cutA s (0 : Int) ((s.length - 1 : Nat) : Int) = some s.dropLast := by
    have := cutA_ok (l := s) (a := 0) (e := s.length - 1) (by omega) (by omega)
    have e0 : ((0 : Nat) : Int) = 0 := rfl
    rw [e0] at this
    rw [this, List.drop_zero, Nat.sub_zero, List.dropLast_eq_take]
   rw [nfL134_1, e1, cond_true, wpred (by omega) (by omega), hl, opt_s, e48, hcut, opt_s]
   by_cases hc : s.getLast hne = 48
   ·have : decide (s.getLast hne = 48) = true := by simp [hc]
    rw [this, cond_true, ih s.dropLast (by omega) (by omega)]
    unfold trimZr
    rw [hrev, hr, trimZ, if_pos hc]
   ·have : decide (s.getLast hne = 48) = false := by simp [hc]
    rw [this, cond_false]
    unfold trimZr
    rw [hrev, hr, trimZ, if_neg hc, ← hr, ← hrev, List.reverse_reverse]
  ·have e1 : decide ((1 : Int) < (s.length : Int)) = false := by simp; omega
   rw [nfL134_1, e1, cond_false]
   have hd : s.dropLast = [] := List.eq_nil_of_length_eq_zero (by rw [List.length_dropLast]; omega)
   unfold trimZr
   rw [hrev, hd]
   rw [hd, List.nil_append] at hsp
   rw [List.reverse_nil, trimZ, List.reverse_singleton, hsp]
theorem law134 {s : List UInt8} (hs : s.length ≤ 1000000) : (ev E).call 134 [LV.str s] μ = some (.ret (LV.str (trimZr s)) μ) := by
 refine ev_call ?_
 rw [nf134, loop134 _ s rfl hs, opt_s, nfXL134_1_0]
def countR (s : List UInt8) : Nat := if s = [48] then 0 else s.length
theorem law135 {s : List UInt8} : (ev E).call 135 [LV.str s] μ = some (.ret (LV.int .i64 (countR s : Nat)) μ) := by
 refine ev_call ?_
 rw [nf135]
 unfold countR
 by_cases h : s = [48]
 ·simp [h]
 ·simp [h]
theorem loop120 {s : List UInt8} (hs : s.length ≤ 9) (hd : ∀ b ∈ s, isDig b = true) : ∀ (k m acc : Nat), m + k = s.length → (acc + 1) * 10 ^ k ≤ 1000000000 → L120_3 (ev E) s (acc : Int) (m : Int) μ = some (XL120_3_0 (valD acc (s.drop m) : Nat) μ) := by
 intro k
 induction k with
 | zero =>
  intro m acc hm ha
  refine ev_loop ?_
  rw [nfL120_3, lt_f (by omega), cond_false, List.drop_eq_nil_of_le (by omega)]
  rfl
 | succ k ih =>
  intro m acc hm ha
  have hp : 1 ≤ 10 ^ k := Nat.pow_pos (by omega)
  have e2 : (acc + 1) * 10 ^ (k + 1) = ((acc + 1) * 10) * 10 ^ k := by rw [Nat.pow_succ, Nat.mul_comm (10 ^ k) 10, Nat.mul_assoc]
  rw [e2] at ha
  have h3 : (acc + 1) * 10 ≤ 1000000000 := Nat.le_trans (Nat.le_mul_of_pos_right _ hp) ha
  have hlt : m < s.length := by omega
  have hc := isDig_iff.1 (hd s[m] (List.getElem_mem hlt))
  refine ev_loop ?_
  have w1 : IntKind.wrap .u8 ((s[m].toNat : Int) - 48) = ((s[m].toNat - 48 : Nat) : Int) := by rw [wrap8 (by omega) (by omega)]; omega
  have w2 : IntKind.wrap .i64 ((s[m].toNat - 48 : Nat) : Int) = ((s[m].toNat - 48 : Nat) : Int) := wrap64 (by omega) (by omega)
  have w3 : IntKind.wrap .i64 (10 * (acc : Int)) = ((10 * acc : Nat) : Int) := by rw [wrap64 (by omega) (by omega)]; omega
  have w4 : IntKind.wrap .i64 (((10 * acc : Nat) : Int) + ((s[m].toNat - 48 : Nat) : Int)) = ((acc * 10 + (s[m].toNat - 48) : Nat) : Int) := by rw [wrap64 (by omega) (by omega)]; omega
  rw [nfL120_3, lt_t hlt, cond_true, strAt_lt hlt, opt_s, w1, w2, w3, w4, wsucc (by omega), ih (m + 1) _ (by omega) (Nat.le_trans (Nat.mul_le_mul_right _ (by omega)) ha), List.drop_eq_getElem_cons hlt, valD_cons]
theorem law120 {s : List UInt8} (hs : s.length ≤ 9) (hd : ∀ b ∈ s, isDig b = true) : (ev E).call 120 [LV.str s] μ = some (.ret (LV.int .i64 (valD 0 s : Nat)) μ) := by
 refine ev_call ?_
 have hp : (0 + 1) * 10 ^ s.length ≤ 1000000000 := by
  have : 10 ^ s.length ≤ 10 ^ 9 := Nat.pow_le_pow_right (by omega) hs
  omega
 have := loop120 (μ := μ) hs hd s.length 0 0 (by omega) hp
 have e0 : ((0 : Nat) : Int) = 0 := rfl
 rw [e0, List.drop_zero] at this
 rw [nf120, this, opt_s, nfXL120_3_0]
theorem tdivN (n : Nat) : Int.tdiv (n : Int) 10 = ((n / 10 : Nat) : Int) := by exact rfl
theorem tmodN (n : Nat) : Int.tmod (n : Int) 10 = ((n % 10 : Nat) : Int) := by exact rfl
theorem itoa_nat {n : Nat} : Lib.itoa (n : Int) = Lib.decDigits n := by
 unfold Lib.itoa
 rw [if_neg (by omega)]
 rfl
theorem itoa_neg {n : Nat} (h : 1 ≤ n) : Lib.itoa (-(n : Int)) = 45 :: Lib.decDigits n := by
 unfold Lib.itoa
 rw [if_pos (by omega)]
 congr 2
 omega
theorem dig_one : ∀ d : Fin 10, cutA ([48, 49, 50, 51, 52, 53, 54, 55, 56, 57] : List UInt8) (d.val : Int) ((d.val + 1 : Nat) : Int) = some [UInt8.ofNat (48 + d.val)] := by decide
theorem dec_len {n : Nat} (h : n < 18446744073709551616) : (Lib.decDigits n).length ≤ 20 := by rw [Lib.decDigits_length]; exact Lib.nDigits_le20 n h
theorem law71n : ∀ (n : Nat), n ≤ 1000000000 → (ev E).call 71 [LV.int .i64 (n : Int)] μ = some (.ret (LV.str (Lib.decDigits n)) μ) := by
 intro n
 induction n using Nat.strongRecOn with
 | _ n ih =>
  intro hn
  refine ev_call ?_
  have h0 : decide ((n : Int) < 0) = false := by simp
  rw [nf71, h0, cond_false]
  have hG : G71_5 (ev E) (n : Int) μ = some (XG71_5_0 (Lib.decDigits n) μ) := by
   refine ev_seg ?_
   rw [nfG71_5]
   by_cases h9 : 9 < n
   ·have e9 : decide ((9 : Int) < (n : Int)) = true := by simp; omega
    have w1 : IntKind.wrap .i64 (Int.tdiv (n : Int) 10) = ((n / 10 : Nat) : Int) := by
     have : Int.tdiv (n : Int) 10 = ((n / 10 : Nat) : Int) := tdivN n
     rw [this, wrap64 (by omega) (by omega)]
    have w2 : Int.tmod (n : Int) 10 = ((n % 10 : Nat) : Int) := tmodN n
    have hd1 : (Lib.decDigits (n / 10)).length ≤ 20 := dec_len (by omega)
    have hd2 : (Lib.decDigits (n % 10)).length ≤ 20 := dec_len (by omega)
    rw [e9, cond_true, w1, ih (n / 10) (by omega) (by omega)]
    simp only [callK_ret, getTup_t, opt_s, uncons_c, getInt_i, getStr_s, getBool_b, isNilL_n, gB_t, cond_true, cond_false, Bool.not_true, Bool.not_false, getSl_s, getSl_o, getOsl_o]
    rw [w2, ih (n % 10) (by omega) (by omega)]
    simp only [callK_ret, getTup_t, opt_s, uncons_c, getInt_i, getStr_s, getBool_b, isNilL_n, gB_t, cond_true, cond_false, Bool.not_true, Bool.not_false, getSl_s, getSl_o, getOsl_o]
    rw [small_le (by omega), gB_t]
    have : Lib.decDigits (n % 10) = [UInt8.ofNat (48 + n % 10)] := Lib.decDigits_one (by omega)
    rw [this]
    have e := dec_app (u := n / 10) (d := n % 10) (by omega) (by omega)
    have e2 : n / 10 * 10 + n % 10 = n := by omega
    rw [e2] at e
    rw [e]
   ·have e9 : decide ((9 : Int) < (n : Int)) = false := by simp; omega
    rw [e9, cond_false, wsucc (by omega)]
    have := dig_one ⟨n, by omega⟩
    simp only at this
    rw [this, opt_s, Lib.decDigits_one (by omega)]
  rw [hG, opt_s, nfXG71_5_0]
theorem law71z : ∀ (n : Nat), 1 ≤ n → n ≤ 1000000000 → (ev E).call 71 [LV.int .i64 (-(n : Int))] μ = some (.ret (LV.str (45 :: Lib.decDigits n)) μ) := by
 intro n
 induction n using Nat.strongRecOn with
 | _ n ih =>
  intro h1 hn
  refine ev_call ?_
  have h0 : decide (-(n : Int) < 0) = true := by simp; omega
  rw [nf71, h0, cond_true]
  by_cases h9 : 9 < n
  ·have e9 : decide ((-10 : Int) < -(n : Int)) = false := by simp; omega
   rw [e9, cond_false]
   have hG : G71_4 (ev E) (-(n : Int)) μ = some (XG71_4_0 (45 :: Lib.decDigits n) μ) := by
    refine ev_seg ?_
    have w1 : IntKind.wrap .i64 (Int.tdiv (-(n : Int)) 10) = -((n / 10 : Nat) : Int) := by
     have : Int.tdiv (-(n : Int)) 10 = -((n / 10 : Nat) : Int) := by rw [Int.neg_tdiv, tdivN]
     rw [this, wrap64 (by omega) (by omega)]
    have w2 : IntKind.wrap .i64 (0 - Int.tmod (-(n : Int)) 10) = ((n % 10 : Nat) : Int) := by
     have : Int.tmod (-(n : Int)) 10 = -((n % 10 : Nat) : Int) := by rw [Int.neg_tmod, tmodN]
     rw [this, wrap64 (by omega) (by omega)]
     omega
    have hd1 : (Lib.decDigits (n / 10)).length ≤ 20 := dec_len (by omega)
    have hd2 : (Lib.decDigits (n % 10)).length ≤ 20 := dec_len (by omega)
    rw [nfG71_4, w1, ih (n / 10) (by omega) (by omega) (by omega)]
    simp only [callK_ret, getTup_t, opt_s, uncons_c, getInt_i, getStr_s, getBool_b, isNilL_n, gB_t, cond_true, cond_false, Bool.not_true, Bool.not_false, getSl_s, getSl_o, getOsl_o]
    rw [w2, law71n (n % 10) (by omega)]
    simp only [callK_ret, getTup_t, opt_s, uncons_c, getInt_i, getStr_s, getBool_b, isNilL_n, gB_t, cond_true, cond_false, Bool.not_true, Bool.not_false, getSl_s, getSl_o, getOsl_o]
    rw [small_le (by simp; omega), gB_t]
    have : Lib.decDigits (n % 10) = [UInt8.ofNat (48 + n % 10)] := Lib.decDigits_one (by omega)
    rw [this]
    have e := dec_app (u := n / 10) (d := n % 10) (by omega) (by omega)
    have e2 : n / 10 * 10 + n % 10 = n := by omega
    rw [e2] at e
    rw [e]
    rfl
   rw [hG, opt_s, nfXG71_4_0]
  ·have e9 : decide ((-10 : Int) < -(n : Int)) = true := by simp; omega
   have w1 : IntKind.wrap .i64 (0 - -(n : Int)) = (n : Int) := by rw [wrap64 (by omega) (by omega)]; omega
   have hd2 : (Lib.decDigits n).length ≤ 20 := dec_len (by omega)
   rw [e9, cond_true, w1, law71n n (by omega)]
   simp only [callK_ret, getTup_t, opt_s, uncons_c, getInt_i, getStr_s, getBool_b, isNilL_n, gB_t, cond_true, cond_false, Bool.not_true, Bool.not_false, getSl_s, getSl_o, getOsl_o]
   rw [small_le (by simp; omega), gB_t]
   rfl
theorem law71 {n : Int} (h0 : -1000000000 ≤ n) (h1 : n ≤ 1000000000) : (ev E).call 71 [LV.int .i64 n] μ = some (.ret (LV.str (Lib.itoa n)) μ) := by
 by_cases h : 0 ≤ n
 ·obtain ⟨m, rfl⟩ : ∃ m : Nat, n = (m : Int) := ⟨n.toNat, by omega⟩
  rw [itoa_nat]
  exact law71n m (by omega)
 ·obtain ⟨m, rfl⟩ : ∃ m : Nat, n = -(m : Int) := ⟨(-n).toNat, by omega⟩
  rw [itoa_neg (by omega)]
  exact law71z m (by omega) (by omega)
theorem loop42 {s : List UInt8} (hs : s.length ≤ 200000) : ∀ (k m : Nat) (acc : List UInt8), m + k = s.length → acc.length ≤ 1 + 2 * m → L42_3 (ev E) s acc (m : Int) μ = some (XL42_3_0 (acc ++ dbl (s.drop m)) μ) := by
 have e39 : ∀ c : UInt8, decide ((c.toNat : Int) = 39) = decide (c = 39) := fun c => u8_eq (k := 39) (by omega)
 intro k
 induction k with
 | zero =>
  intro m acc hm ha
  refine ev_loop ?_
  rw [nfL42_3, lt_f (by omega), cond_false, List.drop_eq_nil_of_le (by omega)]
  simp [dbl]
 | succ k ih =>
  intro m acc hm ha
  have hlt : m < s.length := by omega
  refine ev_loop ?_
  rw [nfL42_3, lt_t hlt, cond_true, wsucc (by omega), cut1 hlt, opt_s, small_le (by simp; omega), gB_t, strAt_lt hlt, opt_s, e39, List.drop_eq_getElem_cons hlt, dbl]
  by_cases hc : s[m] = 39
  ·have : decide (s[m] = 39) = true := by simp [hc]
   rw [this, cond_true, small_le (by simp; omega), gB_t, ih (m + 1) _ (by omega) (by simp; omega), if_pos hc, hc]
   simp
  ·have : decide (s[m] = 39) = false := by simp [hc]
   rw [this, cond_false, ih (m + 1) _ (by omega) (by simp; omega), if_neg hc]
   simp
theorem law42 {s : List UInt8} (hs : s.length ≤ 200000) : (ev E).call 42 [LV.str s] μ = some (.ret (LV.str (charsT s)) μ) := by
 refine ev_call ?_
 have := loop42 (μ := μ) hs s.length 0 [39] (by omega) (by simp)
 have e0 : ((0 : Nat) : Int) = 0 := rfl
 have hd := dbl_len s
 rw [e0, List.drop_zero] at this
 rw [nf42, this, opt_s, nfXL42_3_0, small_le (by simp; omega), gB_t]
 rfl
theorem law41 {s : List UInt8} {m : Int} (hs : s.length ≤ 200000) : (ev E).call 41 [LV.str s, LV.int .i64 m] μ = some (.ret (LV.bool (!decide (m < (s.length : Int)) && isTextB s)) μ) := by
 have hl : ∀ (k n : Nat), n + k = s.length → L41_4 (ev E) s (n : Int) μ = some (if isTextB (s.drop n) then XL41_4_2 μ else XL41_4_0 false μ) := by
  intro k
  induction k with
  | zero =>
   intro n hn
   refine ev_loop ?_
   rw [nfL41_4, lt_f (by omega), cond_false, List.drop_eq_nil_of_le (by omega)]
   rfl
  | succ k ih =>
   intro n hn
   have hlt : n < s.length := by omega
   refine ev_loop ?_
   have w : IntKind.wrap .i64 (s[n].toNat : Int) = (s[n].toNat : Int) := by have := s[n].toNat_lt; rw [wrap64 (by omega) (by omega)]
   rw [nfL41_4, lt_t hlt, cond_true, strAt_lt hlt, opt_s, w, law23]
   simp only [callK_ret, getTup_t, opt_s, uncons_c, getInt_i, getStr_s, getBool_b, isNilL_n, gB_t, cond_true, cond_false, Bool.not_true, Bool.not_false, getSl_s, getSl_o, getOsl_o]
   rw [wsucc (by omega), ih (n + 1) (by omega), List.drop_eq_getElem_cons hlt]
   have e1 : decide ((32 : Int) ≤ (s[n].toNat : Int)) = decide (32 ≤ s[n].toNat) := dI 32 _
   have e2 : decide ((s[n].toNat : Int) ≤ 126) = decide (s[n].toNat ≤ 126) := dI _ 126
   rw [e1, e2]
   have hT : isTextB (s[n] :: s.drop (n + 1)) = ((decide (32 ≤ s[n].toNat) && decide (s[n].toNat ≤ 126)) && isTextB (s.drop (n + 1))) := by
    unfold isTextB
    rw [List.any_cons]
    by_cases h1 : 32 ≤ s[n].toNat
    ·by_cases h2 : s[n].toNat ≤ 126
     ·have h3 : ¬ s[n].toNat < 32 := by omega
      have h4 : ¬ 126 < s[n].toNat := by omega
      simp [h1, h2, h3, h4]
     ·have h4 : 126 < s[n].toNat := by omega
      simp [h2, h4]
    ·have h3 : s[n].toNat < 32 := by omega
     simp [h1, h3]
   rw [hT]
   cases decide (32 ≤ s[n].toNat) && decide (s[n].toNat ≤ 126) <;> rfl
 refine ev_call ?_
 rw [nf41]
 by_cases hm : m < (s.length : Int)
 ·have : decide (m < (s.length : Int)) = true := by simp [hm]
  rw [this]; rfl
 ·have : decide (m < (s.length : Int)) = false := by simp [hm]
  have h0 := hl s.length 0 (by omega)
  have e0 : ((0 : Nat) : Int) = 0 := rfl
  rw [e0, List.drop_zero] at h0
  have hG : G41_3 (ev E) s μ = some (XG41_3_0 (isTextB s) μ) := by
   refine ev_seg ?_
   rw [nfG41_3, h0, opt_s]
   cases isTextB s with
   | true => exact nfXL41_4_2 _ _
   | false => exact nfXL41_4_0 _ _ _
  rw [this, cond_false, hG, opt_s, nfXG41_3_0]
  rfl
theorem law48 {s : List UInt8} (hs : s.length ≤ 200000) : (ev E).call 48 [LV.str s] μ = some (.ret (LV.int .i64 (textErr s)) μ) := by
 refine ev_call ?_
 rw [nf48, law41 hs]
 simp only [callK_ret, getTup_t, opt_s, uncons_c, getInt_i, getStr_s, getBool_b, isNilL_n, gB_t, cond_true, cond_false, Bool.not_true, Bool.not_false, getSl_s, getSl_o, getOsl_o]
 unfold textErr
 by_cases h : 1320 < s.length
 ·have : decide ((1320 : Int) < (s.length : Int)) = true := by simp; omega
  rw [this, if_pos h]
  rfl
 ·have : decide ((1320 : Int) < (s.length : Int)) = false := by simp; omega
  rw [this, if_neg h]
  cases isTextB s <;> rfl
theorem tok_eq (x y : Tok) : (decide (x.kind = y.kind) && (decide (x.type = y.type) && (decide (x.text = y.text) && true))) = decide (x = y) := by
 cases x; cases y
 simp [Bool.decide_and]
def brief (s : List UInt8) : Bool := decide (s.length ≤ 200) || (decide (1320 < s.length) && decide (s.length ≤ 1340))
theorem law16 {s : List UInt8} : (ev E).call 16 [LV.str s] μ = some (.ret (LV.bool (brief s)) μ) := by
 refine ev_call ?_
 rw [nf16]
 have e1 : decide ((s.length : Int) ≤ 200) = decide (s.length ≤ 200) := dI _ 200
 have e2 : decide ((1320 : Int) < (s.length : Int)) = decide (1320 < s.length) := by simp; omega
 have e3 : decide ((s.length : Int) ≤ 1340) = decide (s.length ≤ 1340) := dI _ 1340
 rw [e1, e2, e3]
 unfold brief
 cases decide (s.length ≤ 200) <;> cases decide (1320 < s.length) <;> rfl
end
end Go.Abs
