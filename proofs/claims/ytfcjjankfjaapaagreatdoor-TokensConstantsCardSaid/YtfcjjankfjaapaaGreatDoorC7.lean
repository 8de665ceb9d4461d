/-
  The statement TokensConstantsCardSaid, proved; part 8 of 8 of its proof.
  The reference's numbers.
  The reference's number is the program's.
  The reference's CHARACTER constants and tokens.
  The reference's next token is the program's.
  The chapter's examples, by running the interpreter.
  The tokens of any text in free form.
  Which names, constants and tokens are valid: the two ways in which it is asked.
  The reference's errors of constants and tokens.
  Both ways to ask which constants and tokens are valid answer the same.
  TokensChecks: which constants and tokens are valid.
  TokensConstants: the constant that a text is, the characters of a constant, and the constant of characters.
  TokensConstants.
  The library's functions that are taken by contract: the builder's copy check and its text.
  TokensConstants answers true for every argument, and its arguments read as they did.
-/
import Derived.Test.YtfcjjankfjaapaaGreatDoorC6
import Derived.Test.YtfcjjankfjaapaaGreatDoorC3
import Derived.KernelRfl
import Derived.Test.YtfcjjankfjaapaaGreatDoorC4
import Derived.Shelf.Strings.BuilderK
import Derived.Test.YtfcjjankfjaapaaGreatDoorCards
import Derived.Test.YtfcjjankfjaapaaGreatDoorTie
import Derived.WalkKit
import Derived.OpenShut
set_option linter.all false
set_option linter.unusedSectionVars false
set_option linter.unusedVariables false
set_option linter.unusedSimpArgs false
set_option maxRecDepth 100000
namespace Go.Abs
open Go Go.Proofs
def stN (μ : Mu) (X : Int → Int → List UInt8 → Int → Int → Mu → St) : Except Int (Tok × Nat) → St
 | .ok q => X q.1.kind q.1.type q.1.text (q.2 : Int) 0 μ
 | .error e => X 0 0 [] 0 e μ
def readCV : Except Int (Tok × Nat) → CV
 | .ok q => .agg [CV.int .i64 q.1.kind, CV.int .i64 q.1.type, CV.str q.1.text, CV.int .i64 (q.2 : Int), CV.int .i64 0]
 | .error e => .agg [CV.int .i64 0, CV.int .i64 0, CV.str [], CV.int .i64 0, CV.int .i64 e]
def before (whole : List UInt8) : List UInt8 := trimZ (orZero whole)
def after (part : List UInt8) : List UInt8 := trimZr (orZero part)
def realR (whole part : List UInt8) (kind exp : Int) (e : Nat) : Except Int (Tok × Nat) :=
 if 30 < countR (before whole) + countR (after part) then .error 7
 else if kind = 2 then .ok (⟨1, kind, before whole ++ [46] ++ after part ++ [68] ++ Lib.itoa exp⟩, e)
 else if exp ≠ 0 then .ok (⟨1, kind, before whole ++ [46] ++ after part ++ [69] ++ Lib.itoa exp⟩, e)
 else .ok (⟨1, kind, before whole ++ [46] ++ after part⟩, e)
def most10 : List UInt8 := [50, 49, 52, 55, 52, 56, 51, 54, 52, 55]
def intR (whole : List UInt8) (e : Nat) : Except Int (Tok × Nat) :=
 if 10 < whole.length then .error 28
 else if (trimZ whole).length = 10 ∧ (Op.bytesLess (trimZ whole) most10 || decide (trimZ whole = most10)) = false then .error 28
 else .ok (⟨1, 0, trimZ whole⟩, e)
def expVal (s : List UInt8) (e : Nat) : Int := if atC false s (e + 1) = 45 then -((valD 0 (expDigits false s e) : Nat) : Int) else ((valD 0 (expDigits false s e) : Nat) : Int)
def numTail (s whole part : List UInt8) (point : Bool) (e : Nat) : Except Int (Tok × Nat) :=
 if (expo false s e).2.2.2 then (if 3 < (expDigits false s e).length then .error 7 else realR whole part (if (expo false s e).1 = 68 then 2 else 1) (expVal s e) (expo false s e).2.2.1)
 else if point then realR whole part 1 0 e else intR whole e
def wordsR : List (List UInt8) := wordsS ++ [trueS, falseS]
def wordR (s : List UInt8) (n : Nat) : Bool := decide (0 < digR s n) && wordsR.any (beginsR s (n + digR s n))
def numberR (s : List UInt8) (n : Nat) : Except Int (Tok × Nat) :=
 if !wordR s n && decide (s[n + digR s n]? = some 46) then
  numTail s ((s.drop n).take (digR s n)) ((s.drop (n + digR s n + 1)).take (digR s (n + digR s n + 1))) true (n + digR s n + 1 + digR s (n + digR s n + 1))
 else numTail s ((s.drop n).take (digR s n)) [] false (n + digR s n)
section
variable {μ : Mu} {s : List UInt8}
theorem trimZr_len (l : List UInt8) : (trimZr l).length ≤ l.length := by
 unfold trimZr
 have := trimZ_len l.reverse
 simpa using this
theorem itoa_small {x : Int} (h0 : -1000000000 ≤ x) (h1 : x ≤ 1000000000) : (Lib.itoa x).length ≤ 21 := Lib.itoa_length_le x (by omega) (by omega)
theorem seg98_44 {e : Nat} {kind exp a b c d : Int} {t be af : List UInt8} (hb : be.length ≤ 300000) (ha : af.length ≤ 300000) (h0 : -1000000000 ≤ exp) (h1 : exp ≤ 1000000000) :
  G98_44 (ev E) (e : Int) kind exp be af a b t c d μ = some (XG98_44_0 1 kind (if kind = 2 then be ++ [46] ++ af ++ [68] ++ Lib.itoa exp else if exp ≠ 0 then be ++ [46] ++ af ++ [69] ++ Lib.itoa exp else be ++ [46] ++ af) (e : Int) 0 μ) := by
 refine ev_seg ?_
 have hi := itoa_small h0 h1
 rw [nfG98_44, small_le (by simp; omega), gB_t, small_le (by simp; omega), gB_t, law71 h0 h1]
 simp only [callK_ret, getTup_t, opt_s, uncons_c, getInt_i, getStr_s, getBool_b, isNilL_n, gB_t, cond_true, cond_false, Bool.not_true, Bool.not_false, getSl_s, getSl_o, getOsl_o]
 by_cases hk : kind = 2
 ·have : decide (kind = 2) = true := by simp [hk]
  rw [this, cond_true, small_le (by simp; omega), gB_t, small_le (by simp; omega), gB_t, if_pos hk]
 ·have : decide (kind = 2) = false := by simp [hk]
  rw [this, cond_false, if_neg hk]
  by_cases he : exp = 0
  ·have : decide (exp = 0) = true := by simp [he]
   rw [this, Bool.not_true, cond_false, if_neg (by simp [he])]
  ·have : decide (exp = 0) = false := by simp [he]
   rw [this, Bool.not_false, cond_true, if_pos he, small_le (by simp; omega), gB_t, small_le (by simp; omega), gB_t]
theorem seg98_41 {n w e : Nat} {kind exp a b c d : Int} {t part : List UInt8} (hs : s.length ≤ 200000) (hw : n + w ≤ s.length) (hp : part.length ≤ 200000) (h0 : -1000000000 ≤ exp) (h1 : exp ≤ 1000000000) :
  G98_41 (ev E) s (n : Int) (w : Int) (e : Int) kind exp part a b t c d μ = some (stN μ XG98_41_0 (realR ((s.drop n).take w) part kind exp e)) := by
 refine ev_seg ?_
 have e1 : n + w - n = w := by omega
 have hl : ((s.drop n).take w).length ≤ 200000 := by simp; omega
 have k1 := orZero_len ((s.drop n).take w)
 have k2 := orZero_len part
 have k3 : (before ((s.drop n).take w)).length ≤ 200001 := by have := trimZ_len (orZero ((s.drop n).take w)); unfold before; omega
 have k4 : (after part).length ≤ 200001 := by have := trimZr_len (orZero part); unfold after; omega
 rw [nfG98_41, wadd (by omega), cutA_ok (by omega) hw, opt_s, e1, law70]
 simp only [callK_ret, getTup_t, opt_s, uncons_c, getInt_i, getStr_s, getBool_b, isNilL_n, gB_t, cond_true, cond_false, Bool.not_true, Bool.not_false, getSl_s, getSl_o, getOsl_o]
 rw [law69 (by omega)]
 simp only [callK_ret, getTup_t, opt_s, uncons_c, getInt_i, getStr_s, getBool_b, isNilL_n, gB_t, cond_true, cond_false, Bool.not_true, Bool.not_false, getSl_s, getSl_o, getOsl_o]
 rw [law70]
 simp only [callK_ret, getTup_t, opt_s, uncons_c, getInt_i, getStr_s, getBool_b, isNilL_n, gB_t, cond_true, cond_false, Bool.not_true, Bool.not_false, getSl_s, getSl_o, getOsl_o]
 rw [law134 (by omega)]
 simp only [callK_ret, getTup_t, opt_s, uncons_c, getInt_i, getStr_s, getBool_b, isNilL_n, gB_t, cond_true, cond_false, Bool.not_true, Bool.not_false, getSl_s, getSl_o, getOsl_o]
 rw [law135]
 simp only [callK_ret, getTup_t, opt_s, uncons_c, getInt_i, getStr_s, getBool_b, isNilL_n, gB_t, cond_true, cond_false, Bool.not_true, Bool.not_false, getSl_s, getSl_o, getOsl_o]
 rw [law135]
 simp only [callK_ret, getTup_t, opt_s, uncons_c, getInt_i, getStr_s, getBool_b, isNilL_n, gB_t, cond_true, cond_false, Bool.not_true, Bool.not_false, getSl_s, getSl_o, getOsl_o]
 have hB : trimZ (orZero ((s.drop n).take w)) = before ((s.drop n).take w) := rfl
 have hA : trimZr (orZero part) = after part := rfl
 have c1 : countR (before ((s.drop n).take w)) ≤ 200001 := by unfold countR; split <;> omega
 have c2 : countR (after part) ≤ 200001 := by unfold countR; split <;> omega
 rw [hB, hA, wadd (by omega), seg98_44 (by omega) (by omega) h0 h1, opt_s, nfXG98_44_0]
 unfold realR
 by_cases h30 : 30 < countR (before ((s.drop n).take w)) + countR (after part)
 ·have : decide ((30 : Int) < ((countR (before ((s.drop n).take w)) + countR (after part) : Nat) : Int)) = true := by simp; omega
  rw [this, cond_true, if_pos h30]
  rfl
 ·have : decide ((30 : Int) < ((countR (before ((s.drop n).take w)) + countR (after part) : Nat) : Int)) = false := by simp; omega
  rw [this, cond_false, if_neg h30]
  by_cases hk : kind = 2
  ·rw [if_pos hk, if_pos hk]; rfl
  ·rw [if_neg hk, if_neg hk]
   by_cases he : exp ≠ 0
   ·rw [if_pos he, if_pos he]; rfl
   ·rw [if_neg he, if_neg he]; rfl
theorem seg98_34 {n w e : Nat} {a b c d : Int} {t : List UInt8} (hs : s.length ≤ 200000) (hw : n + w ≤ s.length) (h10 : w ≤ 10) :
  G98_34 (ev E) s (n : Int) (w : Int) (e : Int) a b t c d μ = some (stN μ XG98_34_0 (intR ((s.drop n).take w) e)) := by
 refine ev_seg ?_
 have e1 : n + w - n = w := by omega
 have hl : ((s.drop n).take w).length = w := by simp; omega
 rw [nfG98_34, wadd (by omega), cutA_ok (by omega) hw, opt_s, e1, law69 (by omega)]
 simp only [callK_ret, getTup_t, opt_s, uncons_c, getInt_i, getStr_s, getBool_b, isNilL_n, gB_t, cond_true, cond_false, Bool.not_true, Bool.not_false, getSl_s, getSl_o, getOsl_o]
 unfold intR
 rw [if_neg (by omega)]
 have hm : ([50, 49, 52, 55, 52, 56, 51, 54, 52, 55] : List UInt8) = most10 := rfl
 rw [hm]
 by_cases hT : (trimZ ((s.drop n).take w)).length = 10
 ·have : decide (((trimZ ((s.drop n).take w)).length : Int) = 10) = true := by simp; omega
  rw [this, cond_true]
  cases hB : (Op.bytesLess (trimZ ((s.drop n).take w)) most10 || decide (trimZ ((s.drop n).take w) = most10)) with
  | true => rw [if_neg (by simp)]; rfl
  | false => rw [if_pos ⟨hT, rfl⟩]; rfl
 ·have : decide (((trimZ ((s.drop n).take w)).length : Int) = 10) = false := by simp; omega
  rw [this, cond_false, if_neg (by simp [hT])]
  rfl
def tail31 (whole part : List UInt8) (point has : Bool) (kind exp : Int) (e : Nat) : Except Int (Tok × Nat) := if point || has then realR whole part kind exp e else intR whole e
theorem seg98_31 {n w e p : Nat} {kind exp a b c d : Int} {t : List UInt8} {point has : Bool} (hs : s.length ≤ 200000) (hw : n + w ≤ s.length) (hp : point = true → n + w + 1 + p ≤ s.length) (h0 : -1000000000 ≤ exp) (h1 : exp ≤ 1000000000) :
  G98_31 (ev E) s (n : Int) (w : Int) (e : Int) point (p : Int) kind exp has a b t c d μ = some (stN μ XG98_31_0 (tail31 ((s.drop n).take w) (if point then (s.drop (n + w + 1)).take p else []) point has kind exp e)) := by
 refine ev_seg ?_
 have h38 : (opt (G98_38 (ev E) s (n : Int) (w : Int) (e : Int) point (p : Int) kind exp a b t c d μ) fun st => runK E.P (ev E) H98 [] st (segEnd H98 [(4, 0)])) = some (stN μ XG98_31_0 (realR ((s.drop n).take w) (if point then (s.drop (n + w + 1)).take p else []) kind exp e)) := by
  have : G98_38 (ev E) s (n : Int) (w : Int) (e : Int) point (p : Int) kind exp a b t c d μ = some (stN μ XG98_38_0 (realR ((s.drop n).take w) (if point then (s.drop (n + w + 1)).take p else []) kind exp e)) := by
   refine ev_seg ?_
   have hfin : ∀ q, runK E.P (ev E) H98 [] (stN μ XG98_41_0 q) (segEnd H98 [(4, 0)]) = some (stN μ XG98_38_0 q) := by
    intro q
    cases q with
    | ok q => exact nfXG98_41_0 _ _ _ _ _ _ _
    | error e => exact nfXG98_41_0 _ _ _ _ _ _ _
   cases point with
   | true =>
    have hp' := hp rfl
    have e1 : n + w + 1 + p - (n + w + 1) = p := by omega
    rw [nfG98_38, cond_true, wadd (by omega), wsucc (by omega), wadd (by omega), cutA_ok (by omega) hp', opt_s, e1, seg98_41 hs hw (by simp; omega) h0 h1, opt_s, hfin]
    rfl
   | false =>
    rw [nfG98_38, cond_false, seg98_41 hs hw (by simp) h0 h1, opt_s, hfin]
    rfl
  rw [this, opt_s]
  cases realR ((s.drop n).take w) (if point then (s.drop (n + w + 1)).take p else []) kind exp e with
  | ok q => exact nfXG98_38_0 _ _ _ _ _ _ _
  | error e => exact nfXG98_38_0 _ _ _ _ _ _ _
 rw [nfG98_31]
 unfold tail31
 cases point with
 | true => rw [Bool.not_true, cond_false, h38]; rfl
 | false =>
  rw [Bool.not_false, cond_true]
  cases has with
  | true => rw [Bool.not_true, cond_false, h38]; rfl
  | false =>
   rw [Bool.not_false, cond_true]
   have hl : ((s.drop n).take w).length = w := by simp; omega
   by_cases h10 : 10 < w
   ·have : decide ((10 : Int) < (w : Int)) = true := by simp; omega
    rw [this, cond_true]
    simp only [Bool.or_self, Bool.false_eq_true, if_false, intR, hl, if_pos h10]
    rfl
   ·have : decide ((10 : Int) < (w : Int)) = false := by simp; omega
    rw [this, cond_false, seg98_34 hs hw (by omega), opt_s]
    simp only [Bool.or_self, Bool.false_eq_true, if_false]
    cases intR ((s.drop n).take w) e with
    | ok q => exact nfXG98_34_0 _ _ _ _ _ _ _
    | error e => exact nfXG98_34_0 _ _ _ _ _ _ _
theorem exp_letter_fin : ∀ i : Fin 256, ((UInt8.ofNat i.val &&& 223 = 69) ↔ (UInt8.ofNat i.val = 69 ∨ UInt8.ofNat i.val = 101)) ∧ ((UInt8.ofNat i.val &&& 223 = 68) ↔ (UInt8.ofNat i.val = 68 ∨ UInt8.ofNat i.val = 100)) := by decide
theorem exp_letter (c : UInt8) : ((c &&& 223 = 69) ↔ (c = 69 ∨ c = 101)) ∧ ((c &&& 223 = 68) ↔ (c = 68 ∨ c = 100)) := by
 have := exp_letter_fin ⟨c.toNat, c.toNat_lt⟩
 simpa using this
theorem valD_lt {l : List UInt8} (h : ∀ b ∈ l, isDig b = true) (hl : l.length ≤ 9) : valD 0 l < 1000000000 := by
 have := (valD_bounds l 0 h).2
 have h2 : 10 ^ l.length ≤ 10 ^ 9 := Nat.pow_le_pow_right (by omega) hl
 omega
theorem seg98_20 {n w e p k : Nat} {a b c d : Int} {t : List UInt8} {point : Bool} (hs : s.length ≤ 200000) (hw : n + w ≤ s.length) (he : e < s.length) (hk : k ≤ s.length) (hk1 : e + 1 ≤ k) :
  G98_20 (ev E) s (n : Int) (w : Int) (e : Int) point (p : Int) 1 0 false (k : Int) a b t c d μ = some (
   if digR s k = 0 then XG98_20_1 s (n : Int) (w : Int) (e : Int) point (p : Int) 1 0 false a b t c d μ
   else if 3 < digR s k then XG98_20_0 0 0 [] 0 7 μ
   else XG98_20_1 s (n : Int) (w : Int) ((k + digR s k : Nat) : Int) point (p : Int) (if s[e] = 68 ∨ s[e] = 100 then 2 else 1) (if s[k - 1]? = some 45 then -((valD 0 ((s.drop k).take (digR s k)) : Nat) : Int) else ((valD 0 ((s.drop k).take (digR s k)) : Nat) : Int)) true a b t c d μ) := by
 have e68 : ∀ c : UInt8, decide ((c.toNat : Int) = 68) = decide (c = 68) := fun c => u8_eq (k := 68) (by omega)
 have e100 : ∀ c : UInt8, decide ((c.toNat : Int) = 100) = decide (c = 100) := fun c => u8_eq (k := 100) (by omega)
 have e45 : ∀ c : UInt8, decide ((c.toNat : Int) = 45) = decide (c = 45) := fun c => u8_eq (k := 45) (by omega)
 have hm := digR_le hk
 refine ev_seg ?_
 rw [nfG98_20, law47 hs hk]
 simp only [callK_ret, getTup_t, opt_s, uncons_c, getInt_i, getStr_s, getBool_b, isNilL_n, gB_t, cond_true, cond_false, Bool.not_true, Bool.not_false, getSl_s, getSl_o, getOsl_o]
 by_cases h0 : digR s k = 0
 ·have : decide ((0 : Int) < ((digR s k : Nat) : Int)) = false := by simp; omega
  rw [this, cond_false, if_pos h0]
 ·have : decide ((0 : Int) < ((digR s k : Nat) : Int)) = true := by simp; omega
  rw [this, cond_true, if_neg h0]
  by_cases h3 : 3 < digR s k
  ·have : decide ((3 : Int) < ((digR s k : Nat) : Int)) = true := by simp; omega
   rw [this, cond_true, if_pos h3]
  ·have : decide ((3 : Int) < ((digR s k : Nat) : Int)) = false := by simp; omega
   rw [this, cond_false, if_neg h3]
   have hk2 : k - 1 < s.length := by omega
   have hdig : ∀ b ∈ (s.drop k).take (digR s k), isDig b = true := by
    intro b hb
    have : (s.drop k).take (digR s k) = (s.drop k).takeWhile isDig := by
     unfold digR
     exact (List.prefix_iff_eq_take.1 (List.takeWhile_prefix _)).symm
    rw [this] at hb
    exact takeWhile_all _ b hb
   have hlen : ((s.drop k).take (digR s k)).length ≤ 9 := by simp; omega
   have hv := valD_lt hdig hlen
   have h28 : ∀ (x : Int), G98_28 (ev E) s (n : Int) (w : Int) (e : Int) point (p : Int) 1 x true (k : Int) (digR s k : Nat) a b t c d μ = some (XG98_28_0 s (n : Int) (w : Int) ((k + digR s k : Nat) : Int) point (p : Int) (if s[e] = 68 ∨ s[e] = 100 then 2 else 1) x true a b t c d μ) := by
    intro x
    refine ev_seg ?_
    rw [nfG98_28, strAt_lt he, opt_s, opt_s, e68, e100, wadd (by omega)]
    by_cases h1 : s[e] = 68
    ·have : decide (s[e] = 68) = true := by simp [h1]
     rw [this, cond_true, if_pos (Or.inl h1)]
    ·have : decide (s[e] = 68) = false := by simp [h1]
     rw [this, cond_false]
     by_cases h2 : s[e] = 100
     ·have : decide (s[e] = 100) = true := by simp [h2]
      rw [this, cond_true, if_pos (Or.inr h2)]
     ·have : decide (s[e] = 100) = false := by simp [h2]
      rw [this, cond_false, if_neg (by simp [h1, h2])]
   have h24 : G98_24 (ev E) s (n : Int) (w : Int) (e : Int) point (p : Int) 1 (k : Int) (digR s k : Nat) a b t c d μ = some (XG98_24_0 s (n : Int) (w : Int) ((k + digR s k : Nat) : Int) point (p : Int) (if s[e] = 68 ∨ s[e] = 100 then 2 else 1) (if s[k - 1]? = some 45 then -((valD 0 ((s.drop k).take (digR s k)) : Nat) : Int) else ((valD 0 ((s.drop k).take (digR s k)) : Nat) : Int)) true a b t c d μ) := by
    refine ev_seg ?_
    have e1 : k + digR s k - k = digR s k := by omega
    rw [nfG98_24, wadd (by omega), cutA_ok (by omega) hm, opt_s, e1, law120 hlen hdig]
    simp only [callK_ret, getTup_t, opt_s, uncons_c, getInt_i, getStr_s, getBool_b, isNilL_n, gB_t, cond_true, cond_false, Bool.not_true, Bool.not_false, getSl_s, getSl_o, getOsl_o]
    rw [wpred (by omega) (by omega), strAt_lt hk2, opt_s, e45, List.getElem?_eq_getElem hk2]
    by_cases h45 : s[k - 1] = 45
    ·have : decide (s[k - 1] = 45) = true := by simp [h45]
     have w1 : IntKind.wrap .i64 (0 - ((valD 0 ((s.drop k).take (digR s k)) : Nat) : Int)) = -((valD 0 ((s.drop k).take (digR s k)) : Nat) : Int) := by rw [wrap64 (by omega) (by omega)]; omega
     rw [this, cond_true, w1, h28, opt_s, nfXG98_28_0, if_pos (show (some s[k - 1] : Option UInt8) = some 45 by rw [h45])]
    ·have : decide (s[k - 1] = 45) = false := by simp [h45]
     rw [this, cond_false, h28, opt_s, nfXG98_28_0, if_neg (show ¬ (some s[k - 1] : Option UInt8) = some 45 by simp [h45])]
   rw [h24, opt_s, nfXG98_24_0]
theorem seg98_14 {n w e p : Nat} {a b c d : Int} {t : List UInt8} {word point : Bool} (hs : s.length ≤ 200000) (hw : n + w ≤ s.length) (he : e ≤ s.length) (hp : point = true → n + w + 1 + p ≤ s.length) (hword : word = true → s[e]? = some 46) :
  G98_14 (ev E) s (n : Int) (w : Int) (e : Int) word point (p : Int) a b t c d μ = some (stN μ XG98_14_0 (numTail s ((s.drop n).take w) (if point then (s.drop (n + w + 1)).take p else []) point e)) := by
 have e69 : ∀ c : UInt8, decide ((c.toNat : Int) = 69) = decide (c = 69) := fun c => u8_eq (k := 69) (by omega)
 have e101 : ∀ c : UInt8, decide ((c.toNat : Int) = 101) = decide (c = 101) := fun c => u8_eq (k := 101) (by omega)
 have e68 : ∀ c : UInt8, decide ((c.toNat : Int) = 68) = decide (c = 68) := fun c => u8_eq (k := 68) (by omega)
 have e100 : ∀ c : UInt8, decide ((c.toNat : Int) = 100) = decide (c = 100) := fun c => u8_eq (k := 100) (by omega)
 have e43 : ∀ c : UInt8, decide ((c.toNat : Int) = 43) = decide (c = 43) := fun c => u8_eq (k := 43) (by omega)
 have e45 : ∀ c : UInt8, decide ((c.toNat : Int) = 45) = decide (c = 45) := fun c => u8_eq (k := 45) (by omega)
 obtain ⟨whole, hwhole⟩ : ∃ x, x = (s.drop n).take w := ⟨_, rfl⟩
 obtain ⟨part, hpart⟩ : ∃ x, x = (if point then (s.drop (n + w + 1)).take p else []) := ⟨_, rfl⟩
 have h31 : ∀ {kind exp : Int} {has : Bool} {e : Nat}, -1000000000 ≤ exp → exp ≤ 1000000000 → (opt (G98_31 (ev E) s (n : Int) (w : Int) (e : Int) point (p : Int) kind exp has a b t c d μ) fun st => runK E.P (ev E) H98 [] st (segEnd H98 [(4, 0)])) = some (stN μ XG98_14_0 (tail31 whole part point has kind exp e)) := by
  intro kind exp has e h0 h1
  rw [seg98_31 hs hw hp h0 h1, opt_s, hwhole, hpart]
  cases tail31 ((s.drop n).take w) (if point then (s.drop (n + w + 1)).take p else []) point has kind exp e with
  | ok q => exact nfXG98_31_0 _ _ _ _ _ _ _
  | error e => exact nfXG98_31_0 _ _ _ _ _ _ _
 have hno : ∀ {kind exp : Int}, tail31 whole part point false 1 0 e = if point then realR whole part 1 0 e else intR whole e := by
  intro kind exp
  unfold tail31
  rw [Bool.or_false]
 rw [← hwhole, ← hpart]
 refine ev_seg ?_
 rw [nfG98_14, h31 (by omega) (by omega), hno (kind := 0) (exp := 0)]
 unfold numTail
 cases word with
 | true =>
  have hc : atC false s e = 46 := by rw [atC_free, hword rfl]; rfl
  have hx : (expo false s e).2.2.2 = false := by
   have : expL false s e = 14 := by unfold expL; rw [hc]; rfl
   unfold expo
   rw [this]; rfl
  rw [Bool.not_true, cond_false, hx]
  rfl
 | false =>
  rw [Bool.not_false, cond_true]
  by_cases hlt : e < s.length
  ·have hg : s[e]? = some s[e] := List.getElem?_eq_getElem hlt
   have hc : atC false s e = s[e] := by rw [atC_free, hg]; rfl
   have hE : atE false s e = e + 1 := by rw [atE_free, if_pos hlt]
   rw [lt_t hlt, cond_true, strAt_lt hlt]
   simp only [opt_s, e69, e101, e68, e100]
   by_cases hlet : s[e] = 69 ∨ s[e] = 101 ∨ s[e] = 68 ∨ s[e] = 100
   ·
    have hL : expL false s e = 69 ∨ expL false s e = 68 := by
     unfold expL
     rw [hc]
     have := exp_letter s[e]
     rcases hlet with h | h | h | h
     ·exact Or.inl (this.1.2 (Or.inl h))
     ·exact Or.inl (this.1.2 (Or.inr h))
     ·exact Or.inr (this.2.2 (Or.inl h))
     ·exact Or.inr (this.2.2 (Or.inr h))
    have hC2 : atC false s (e + 1) = (s[e + 1]?).getD 0 := rfl
    have hst : expStart false s e ≤ s.length := by
     unfold expStart
     rw [hE, atE_free]
     split <;> (try split) <;> omega
    have hst1 : e + 1 ≤ expStart false s e := by
     unfold expStart
     rw [hE, atE_free]
     split <;> (try split) <;> omega
    have hdg : expDigits false s e = (s.drop (expStart false s e)).take (digR s (expStart false s e)) := (digR_eq).1
    have hend : runE false isDig s (expStart false s e) = expStart false s e + digR s (expStart false s e) := (digR_eq).2
    have hok : (expo false s e) = (expL false s e, expSign false s e ++ expDigits false s e, runE false isDig s (expStart false s e), !decide (expDigits false s e = [])) := by unfold expo; rw [if_pos hL]
    have hdl : (expDigits false s e).length = digR s (expStart false s e) := by
     rw [hdg]
     have := digR_le hst
     simp; omega
    have h20 : (opt (G98_20 (ev E) s (n : Int) (w : Int) (e : Int) point (p : Int) 1 0 false (expStart false s e : Nat) a b t c d μ) fun st => runK E.P (ev E) H98 [.seq (codeAt E.P 98 [1, 1, 1, 1, 1, 1, 1, 1, 1, 1])] st (segEnd H98 [(4, 0)])) =
      some (stN μ XG98_14_0 (if (expo false s e).2.2.2 then (if 3 < (expDigits false s e).length then .error 7 else realR whole part (if (expo false s e).1 = 68 then 2 else 1) (expVal s e) (expo false s e).2.2.1) else if point then realR whole part 1 0 e else intR whole e)) := by
     rw [seg98_20 hs hw hlt hst hst1, opt_s, hok, hdl, hend]
     simp only
     by_cases h0 : digR s (expStart false s e) = 0
     ·have : expDigits false s e = [] := List.eq_nil_of_length_eq_zero (by omega)
      rw [if_pos h0, this, nfXG98_20_1, h31 (by omega) (by omega), hno (kind := 0) (exp := 0)]
      rfl
     ·have : expDigits false s e ≠ [] := by intro h; rw [h] at hdl; simp at hdl; omega
      have h1 : (!decide (expDigits false s e = [])) = true := by simp [this]
      rw [if_neg h0, h1, if_pos rfl]
      by_cases h3 : 3 < digR s (expStart false s e)
      ·rw [if_pos h3, if_pos h3, nfXG98_20_0]
       rfl
      ·have hlen : (expDigits false s e).length ≤ 9 := by omega
       have hdig : ∀ b ∈ expDigits false s e, isDig b = true := runC_all
       have hv := valD_lt hdig hlen
       rw [hdg] at hv
       have hsign : (if s[expStart false s e - 1]? = some 45 then -((valD 0 ((s.drop (expStart false s e)).take (digR s (expStart false s e))) : Nat) : Int) else ((valD 0 ((s.drop (expStart false s e)).take (digR s (expStart false s e))) : Nat) : Int)) = expVal s e := by
        unfold expVal
        rw [hdg]
        have hiff : s[expStart false s e - 1]? = some 45 ↔ atC false s (e + 1) = 45 := by
         have hstD : expStart false s e = if (s[e + 1]?).getD 0 = 43 ∨ (s[e + 1]?).getD 0 = 45 then atE false s (e + 1) else e + 1 := by unfold expStart; rw [hE, hC2]
         rw [hC2, hstD]
         by_cases hsg : (s[e + 1]?).getD 0 = 43 ∨ (s[e + 1]?).getD 0 = 45
         ·have h2 : e + 1 < s.length := by
           rcases Nat.lt_or_ge (e + 1) s.length with h | h
           ·exact h
           ·rw [List.getElem?_eq_none h] at hsg
            rcases hsg with h | h <;> simp at h
          rw [if_pos hsg, atE_free, if_pos h2]
          have : e + 1 + 1 - 1 = e + 1 := by omega
          rw [this, List.getElem?_eq_getElem h2]
          simp
         ·rw [if_neg hsg]
          have : e + 1 - 1 = e := by omega
          rw [this, hg]
          constructor
          ·intro h
           injection h with h
           rw [h] at hlet
           exact absurd hlet (by decide)
          ·intro h
           exact absurd (Or.inr h) hsg
        by_cases h : s[expStart false s e - 1]? = some 45
        ·rw [if_pos h, if_pos (hiff.1 h)]
        ·rw [if_neg h, if_neg (fun hh => h (hiff.2 hh))]
       have hkind : (if s[e] = 68 ∨ s[e] = 100 then (2 : Int) else 1) = if expL false s e = 68 then 2 else 1 := by
        have hL2 : expL false s e = s[e] &&& 223 := by unfold expL; rw [hc]
        rw [hL2]
        have := (exp_letter s[e]).2
        by_cases h : s[e] = 68 ∨ s[e] = 100
        ·rw [if_pos h, if_pos (this.2 h)]
        ·rw [if_neg h, if_neg (fun hh => h (this.1 hh))]
       have hb : -1000000000 ≤ expVal s e ∧ expVal s e ≤ 1000000000 := by
        unfold expVal
        rw [hdg]
        split <;> omega
       rw [if_neg h3, if_neg h3, hsign, hkind, nfXG98_20_1, h31 hb.1 hb.2]
       unfold tail31
       rw [Bool.or_true, if_pos rfl]
    have hA : cond (decide (IntKind.wrap .i64 ((e : Int) + 1) < (s.length : Int))) (
      opt (strAt s (IntKind.wrap .i64 ((e : Int) + 1))) fun y25 =>
      cond (decide (y25 = 43)) (
      opt (G98_20 (ev E) s (n : Int) (w : Int) (e : Int) point (p : Int) 1 0 false (IntKind.wrap .i64 (IntKind.wrap .i64 ((e : Int) + 1) + 1)) a b t c d μ) fun st98 => runK E.P (ev E) H98 [.seq (codeAt E.P 98 [1, 1, 1, 1, 1, 1, 1, 1, 1, 1])] st98 (segEnd H98 [(4, 0)])) (
      opt (strAt s (IntKind.wrap .i64 ((e : Int) + 1))) fun y99 =>
      cond (decide (y99 = 45)) (
      opt (G98_20 (ev E) s (n : Int) (w : Int) (e : Int) point (p : Int) 1 0 false (IntKind.wrap .i64 (IntKind.wrap .i64 ((e : Int) + 1) + 1)) a b t c d μ) fun st100 => runK E.P (ev E) H98 [.seq (codeAt E.P 98 [1, 1, 1, 1, 1, 1, 1, 1, 1, 1])] st100 (segEnd H98 [(4, 0)])) (
      opt (G98_20 (ev E) s (n : Int) (w : Int) (e : Int) point (p : Int) 1 0 false (IntKind.wrap .i64 ((e : Int) + 1)) a b t c d μ) fun st101 => runK E.P (ev E) H98 [.seq (codeAt E.P 98 [1, 1, 1, 1, 1, 1, 1, 1, 1, 1])] st101 (segEnd H98 [(4, 0)])))) (
      opt (G98_20 (ev E) s (n : Int) (w : Int) (e : Int) point (p : Int) 1 0 false (IntKind.wrap .i64 ((e : Int) + 1)) a b t c d μ) fun st102 => runK E.P (ev E) H98 [.seq (codeAt E.P 98 [1, 1, 1, 1, 1, 1, 1, 1, 1, 1])] st102 (segEnd H98 [(4, 0)])) =
      some (stN μ XG98_14_0 (if (expo false s e).2.2.2 then (if 3 < (expDigits false s e).length then .error 7 else realR whole part (if (expo false s e).1 = 68 then 2 else 1) (expVal s e) (expo false s e).2.2.1) else if point then realR whole part 1 0 e else intR whole e)) := by
     have hstD : expStart false s e = if (s[e + 1]?).getD 0 = 43 ∨ (s[e + 1]?).getD 0 = 45 then atE false s (e + 1) else e + 1 := by unfold expStart; rw [hE, hC2]
     rw [wsucc (by omega), wsucc (by omega)]
     by_cases h2 : e + 1 < s.length
     ·have hg2 : (s[e + 1]?).getD 0 = s[e + 1] := by rw [List.getElem?_eq_getElem h2]; rfl
      rw [hg2, atE_free, if_pos h2] at hstD
      rw [lt_t h2, cond_true, strAt_lt h2]
      simp only [opt_s]
      by_cases h43 : s[e + 1] = 43
      ·have : decide (s[e + 1] = 43) = true := by simp [h43]
       rw [if_pos (Or.inl h43)] at hstD
       rw [hstD] at h20
       rw [this, cond_true, h20]
      ·have : decide (s[e + 1] = 43) = false := by simp [h43]
       rw [this, cond_false]
       by_cases h45 : s[e + 1] = 45
       ·have : decide (s[e + 1] = 45) = true := by simp [h45]
        rw [if_pos (Or.inr h45)] at hstD
        rw [hstD] at h20
        rw [this, cond_true, h20]
       ·have : decide (s[e + 1] = 45) = false := by simp [h45]
        rw [if_neg (by simp [h43, h45])] at hstD
        rw [hstD] at h20
        rw [this, cond_false, h20]
     ·have hg2 : (s[e + 1]?).getD 0 = 0 := by rw [List.getElem?_eq_none (by omega)]; rfl
      rw [hg2, if_neg (by decide)] at hstD
      rw [hstD] at h20
      rw [lt_f (by omega), cond_false, h20]
    simp only [e43, e45]
    rw [hA]
    rcases hlet with h | h | h | h
    ·rw [h]; rfl
    ·rw [h]; rfl
    ·rw [h]; rfl
    ·rw [h]; rfl
   ·have hn1 : s[e] ≠ 69 := fun h => hlet (Or.inl h)
    have hn2 : s[e] ≠ 101 := fun h => hlet (Or.inr (Or.inl h))
    have hn3 : s[e] ≠ 68 := fun h => hlet (Or.inr (Or.inr (Or.inl h)))
    have hn4 : s[e] ≠ 100 := fun h => hlet (Or.inr (Or.inr (Or.inr h)))
    have d1 : decide (s[e] = 69) = false := by simp [hn1]
    have d2 : decide (s[e] = 101) = false := by simp [hn2]
    have d3 : decide (s[e] = 68) = false := by simp [hn3]
    have d4 : decide (s[e] = 100) = false := by simp [hn4]
    have hx : (expo false s e).2.2.2 = false := by
     have hL2 : expL false s e = s[e] &&& 223 := by unfold expL; rw [hc]
     unfold expo
     rw [hL2, if_neg]
     intro h
     have := exp_letter s[e]
     rcases h with h | h
     ·rcases this.1.1 h with h | h
      ·exact hn1 h
      ·exact hn2 h
     ·rcases this.2.1 h with h | h
      ·exact hn3 h
      ·exact hn4 h
    rw [d1, d2, d3, d4, hx]
    rfl
  ·have hx : (expo false s e).2.2.2 = false := by
    have hc : atC false s e = 0 := by rw [atC_free, List.getElem?_eq_none (by omega)]; rfl
    have : expL false s e = 0 := by unfold expL; rw [hc]; rfl
    unfold expo
    rw [this]; rfl
   rw [lt_f (by omega), cond_false, hx]
   rfl
theorem law55 : (ev E).call 55 [] μ = some (.ret (LV.osl (strsCV wordsS)) μ) := ev_call (by rw [nf55]; rfl)
theorem wordsR_len : ∀ w ∈ wordsR, w.length ≤ 200000 := by decide
theorem loop98 {n w i : Nat} {a b c d : Int} {t : List UInt8} (hs : s.length ≤ 200000) (hi : i ≤ s.length) : ∀ (k j : Nat) (word : Bool), j + k = wordsR.length →
  L98_5 (ev E) s (n : Int) (w : Int) (i : Int) word (strsCV wordsR) (wordsR.length : Int) (j : Int) a b t c d μ = some (XL98_5_1 s (n : Int) (w : Int) (i : Int) (word || (decide (0 < w) && (wordsR.drop j).any (beginsR s i))) a b t c d μ) := by
 intro k
 induction k with
 | zero =>
  intro j word hj
  refine ev_loop ?_
  rw [nfL98_5, lt_f (by omega), cond_false, List.drop_eq_nil_of_le (by omega)]
  simp
 | succ k ih =>
  intro j word hj
  have hlt : j < wordsR.length := by omega
  have hj2 : wordsR.length ≤ 13 := by decide
  have hg : slAt (strsCV wordsR) (j : Int) = some (CV.str wordsR[j]) := by rw [slAt_get]; simp [strsCV, hlt]
  refine ev_loop ?_
  rw [nfL98_5, lt_t hlt, cond_true, hg, opt_s, getStr_cv, opt_s, wsucc (by omega), List.drop_eq_getElem_cons hlt, List.any_cons]
  cases word with
  | true => rw [cond_true, ih (j + 1) true (by omega)]; rfl
  | false =>
   rw [cond_false]
   by_cases hw : 0 < w
   ·have : decide ((0 : Int) < (w : Int)) = true := by simp; omega
    rw [this, cond_true, law99 hs hi (wordsR_len _ (List.getElem_mem hlt))]
    simp only [callK_ret, getTup_t, opt_s, uncons_c, getInt_i, getStr_s, getBool_b, isNilL_n, gB_t, cond_true, cond_false, Bool.not_true, Bool.not_false, getSl_s, getSl_o, getOsl_o]
    rw [ih (j + 1) _ (by omega)]
    have : decide (0 < w) = true := by simp [hw]
    rw [this]
    simp
   ·have : decide ((0 : Int) < (w : Int)) = false := by simp; omega
    have h2 : decide (0 < w) = false := by simp; omega
    rw [this, cond_false, ih (j + 1) false (by omega), h2]
    rfl
theorem wordsR_word : ∀ w ∈ wordsR, isWord w := by
 intro w hw
 simp only [wordsR, wordsS, trueS, falseS, List.cons_append, List.nil_append, List.mem_cons, List.not_mem_nil, or_false] at hw
 rcases hw with rfl | rfl | rfl | rfl | rfl | rfl | rfl | rfl | rfl | rfl | rfl | rfl | rfl
 ·exact ⟨[76, 84], rfl, by decide⟩
 ·exact ⟨[76, 69], rfl, by decide⟩
 ·exact ⟨[69, 81], rfl, by decide⟩
 ·exact ⟨[78, 69], rfl, by decide⟩
 ·exact ⟨[71, 69], rfl, by decide⟩
 ·exact ⟨[71, 84], rfl, by decide⟩
 ·exact ⟨[78, 79, 84], rfl, by decide⟩
 ·exact ⟨[65, 78, 68], rfl, by decide⟩
 ·exact ⟨[79, 82], rfl, by decide⟩
 ·exact ⟨[69, 81, 86], rfl, by decide⟩
 ·exact ⟨[78, 69, 81, 86], rfl, by decide⟩
 ·exact ⟨[84, 82, 85, 69], rfl, by decide⟩
 ·exact ⟨[70, 65, 76, 83, 69], rfl, by decide⟩
theorem any_dot {n : Nat} (h : wordsR.any (beginsR s n) = true) : s[n]? = some 46 := by
 rw [List.any_eq_true] at h
 obtain ⟨w, hw, hb⟩ := h
 have := (begins_dotted (wordsR_word w hw) hb).1
 rw [atC_free] at this
 cases hg : s[n]? with
 | none => rw [hg] at this; simp at this
 | some c => rw [hg] at this; simp at this; rw [this]
theorem law98 (hs : s.length ≤ 200000) {n : Nat} (hn : n ≤ s.length) : (ev E).call 98 [LV.str s, LV.int .i64 (n : Int)] μ = some (.ret (.cv (readCV (numberR s n))) μ) := by
 have e46 : ∀ c : UInt8, decide ((c.toNat : Int) = 46) = decide (c = 46) := fun c => u8_eq (k := 46) (by omega)
 have hw := digR_le hn
 have hap : appOK 1 (strsCV wordsS) [CV.str ([46, 84, 82, 85, 69, 46] : List UInt8), CV.str ([46, 70, 65, 76, 83, 69, 46] : List UInt8)] = true := by decide
 have hwr : strsCV wordsS ++ [CV.str ([46, 84, 82, 85, 69, 46] : List UInt8), CV.str ([46, 70, 65, 76, 83, 69, 46] : List UInt8)] = strsCV wordsR := rfl
 have hwl : (strsCV wordsR).length = wordsR.length := by simp [strsCV]
 refine ev_call ?_
 rw [nf98, law47 hs hn]
 simp only [callK_ret, getTup_t, opt_s, uncons_c, getInt_i, getStr_s, getBool_b, isNilL_n, gB_t, cond_true, cond_false, Bool.not_true, Bool.not_false, getSl_s, getSl_o, getOsl_o]
 rw [law55]
 simp only [callK_ret, getTup_t, opt_s, uncons_c, getInt_i, getStr_s, getBool_b, isNilL_n, gB_t, cond_true, cond_false, Bool.not_true, Bool.not_false, getSl_s, getSl_o, getOsl_o]
 have hl := loop98 (μ := μ) (n := n) (w := digR s n) (i := n + digR s n) (a := 0) (b := 0) (c := 0) (d := 0) (t := []) hs hw wordsR.length 0 false (by omega)
 have e0 : ((0 : Nat) : Int) = 0 := rfl
 rw [e0, List.drop_zero, Bool.false_or] at hl
 rw [hap, gB_t, hwr, hwl, wadd (by omega), hl, opt_s, nfXL98_5_1]
 have hW : (decide (0 < digR s n) && wordsR.any (beginsR s (n + digR s n))) = wordR s n := rfl
 rw [hW]
 have hfin : ∀ q : Except Int (Tok × Nat), runK E.P (ev E) H98 [] (stN μ XG98_14_0 q) (bodyEnd E.P (resOf E.P 98)) = some (.ret (.cv (readCV q)) μ) := by
  intro q
  cases q with
  | ok q => exact nfXG98_14_0 _ _ _ _ _ _ _
  | error e => exact nfXG98_14_0 _ _ _ _ _ _ _
 have hword : ∀ {x : Bool}, wordR s n = x → x = true → s[n + digR s n]? = some 46 := by
  intro x h1 h2
  rw [h2] at h1
  unfold wordR at h1
  rw [Bool.and_eq_true] at h1
  exact any_dot h1.2
 have hno : ∀ {x : Bool}, wordR s n = x → (opt (G98_14 (ev E) s (n : Int) (digR s n : Nat) ((n + digR s n : Nat) : Int) x false 0 0 0 [] 0 0 μ) fun st => runK E.P (ev E) H98 [] st (bodyEnd E.P (resOf E.P 98))) = some (.ret (.cv (readCV (numTail s ((s.drop n).take (digR s n)) [] false (n + digR s n)))) μ) := by
  intro x hx
  have := seg98_14 (μ := μ) (n := n) (w := digR s n) (e := n + digR s n) (p := 0) (a := 0) (b := 0) (c := 0) (d := 0) (t := []) (word := x) (point := false) hs hw hw (by intro h; cases h) (hword hx)
  rw [e0] at this
  rw [this, opt_s, hfin]
  rfl
 unfold numberR
 cases hx : wordR s n with
 | true => rw [Bool.not_true, cond_false, hno hx]; rfl
 | false =>
  rw [Bool.not_false, cond_true]
  by_cases hlt : n + digR s n < s.length
  ·rw [lt_t hlt, cond_true, strAt_lt hlt]
   simp only [opt_s, e46]
   rw [List.getElem?_eq_getElem hlt]
   by_cases h46 : s[n + digR s n] = 46
   ·have : decide (s[n + digR s n] = 46) = true := by simp [h46]
    have hp := digR_le (s := s) (n := n + digR s n + 1) hlt
    rw [this, cond_true, wsucc (by omega), law47 hs hlt]
    simp only [callK_ret, getTup_t, opt_s, uncons_c, getInt_i, getStr_s, getBool_b, isNilL_n, gB_t, cond_true, cond_false, Bool.not_true, Bool.not_false, getSl_s, getSl_o, getOsl_o]
    rw [wadd (n := n + digR s n + 1) (m := digR s (n + digR s n + 1)) (by omega), seg98_14 hs hw hp (fun _ => hp) (by intro h; cases h), opt_s, hfin]
    have h2 : (true && decide ((some s[n + digR s n] : Option UInt8) = some 46)) = true := by simp [h46]
    rw [h2, if_pos rfl]
    rfl
   ·have : decide (s[n + digR s n] = 46) = false := by simp [h46]
    have h2 : (true && decide ((some s[n + digR s n] : Option UInt8) = some 46)) = false := by simp [h46]
    rw [this, cond_false, hno hx, h2]
    rfl
  ·have h2 : (true && decide (s[n + digR s n]? = some 46)) = false := by rw [List.getElem?_eq_none (by omega)]; rfl
   rw [lt_f (by omega), cond_false, hno hx, h2]
   rfl
end
end Go.Abs

set_option linter.unusedVariables false
set_option linter.unusedSimpArgs false
set_option maxRecDepth 100000
namespace Go.Abs
open Go Go.Proofs
section
variable {s : List UInt8} {n : Nat}
theorem words_split : wordsR = wordsS ++ [trueS, falseS] := rfl
theorem any_eq (h : atC false s n = 46) : wordsR.any (beginsR s n) = (dotted false s n).2.2 := by
 have hd : (dotted false s n).2.2 = dotOK false s n := by unfold dotted; rw [if_pos h]
 rw [hd]
 apply Bool.eq_iff_iff.2
 constructor
 ·intro ha
  rw [List.any_eq_true] at ha
  obtain ⟨w, hw, hb⟩ := ha
  obtain ⟨_, h2, h3, _⟩ := begins_dotted (wordsR_word w hw) hb
  unfold dotOK
  rw [h2, h3]
  rw [words_split, List.mem_append] at hw
  rcases hw with hw | hw
  ·have : wordsS.contains w = true := List.contains_iff_mem.2 hw
   rw [this]; rfl
  ·simp only [List.mem_cons, List.not_mem_nil, or_false] at hw
   rcases hw with rfl | rfl
   ·simp
   ·simp
 ·intro ha
  unfold dotOK at ha
  simp only [Bool.and_eq_true, Bool.or_eq_true, decide_eq_true_eq] at ha
  obtain ⟨h3, h4⟩ := ha
  have hm : dotText false s n ∈ wordsR := by
   rw [words_split, List.mem_append]
   rcases h4 with (h4 | h4) | h4
   ·exact Or.inl (List.contains_iff_mem.1 h4)
   ·rw [h4]; exact Or.inr (by simp)
   ·rw [h4]; exact Or.inr (by simp)
  rw [List.any_eq_true]
  exact ⟨_, hm, dotted_begins h rfl h3⟩
theorem trimZ_drop : ∀ (l : List UInt8), l ≠ [] → trimZ l = orZero (l.dropWhile (· == 48))
 | [], h => absurd rfl h
 | [c], _ => by
  unfold trimZ orZero
  by_cases hc : c = 48
  ·simp [hc]
  ·simp [hc]
 | c :: d :: r, _ => by
  unfold trimZ
  by_cases hc : c = 48
  ·have : (c :: d :: r).dropWhile (· == (48 : UInt8)) = (d :: r).dropWhile (· == 48) := by
    rw [List.dropWhile_cons, hc]; rfl
   rw [if_pos hc, trimZ_drop (d :: r) (by simp), this]
  ·rw [if_neg hc, List.dropWhile_cons]
   simp [hc, orZero]
theorem before_eq (l : List UInt8) : before l = orZero (trimL l) := by
 unfold before trimL Lib.trimLeftB
 by_cases h : l = []
 ·subst h; rfl
 ·have : orZero l = l := by unfold orZero; rw [if_neg h]
  rw [this]
  exact trimZ_drop l h
theorem orZero_rev (l : List UInt8) : (orZero l).reverse = orZero l.reverse := by
 unfold orZero
 by_cases h : l = []
 ·subst h; rfl
 ·rw [if_neg h, if_neg (by simpa using h)]
theorem after_eq (l : List UInt8) : after l = orZero (trimR l) := by
 unfold after trimR Lib.trimRightB trimZr
 by_cases h : l = []
 ·subst h; rfl
 ·have : orZero l = l := by unfold orZero; rw [if_neg h]
  rw [this, trimZ_drop l.reverse (by simpa using h), orZero_rev]
theorem count_left (l : List UInt8) : countR (orZero (trimL l)) = (trimL l).length := by
 unfold countR orZero
 by_cases h : trimL l = []
 ·rw [if_pos h, if_pos rfl, h]; rfl
 ·rw [if_neg h, if_neg]
  intro h2
  unfold trimL Lib.trimLeftB at h2
  have := List.head_dropWhile_not (· == (48 : UInt8)) (l := l) (by rw [h2]; simp)
  simp only [h2] at this
  simp at this
theorem count_right (l : List UInt8) : countR (orZero (trimR l)) = (trimR l).length := by
 unfold countR orZero
 by_cases h : trimR l = []
 ·rw [if_pos h, if_pos rfl, h]; rfl
 ·rw [if_neg h, if_neg]
  intro h2
  unfold trimR Lib.trimRightB at h2
  have h3 : l.reverse.dropWhile (· == (48 : UInt8)) = [48] := by
   have := congrArg List.reverse h2
   simpa using this
  have := List.head_dropWhile_not (· == (48 : UInt8)) (l := l.reverse) (by rw [h3]; simp)
  simp only [h3] at this
  simp at this
theorem less_val : ∀ (a b : List UInt8), a.length = b.length → (∀ x ∈ a, isDig x = true) → (∀ x ∈ b, isDig x = true) → Op.bytesLess a b = true → valD 0 a < valD 0 b
 | [], [], _, _, _, h => by simp [Op.bytesLess] at h
 | [], _ :: _, hl, _, _, _ => by simp at hl
 | _ :: _, [], hl, _, _, _ => by simp at hl
 | x :: a, y :: b, hl, ha, hb, h => by
  simp only [List.length_cons, Nat.add_right_cancel_iff] at hl
  have hx := isDig_iff.1 (ha x List.mem_cons_self)
  have hy := isDig_iff.1 (hb y List.mem_cons_self)
  have ha' : ∀ x ∈ a, isDig x = true := fun z hz => ha z (List.mem_cons_of_mem _ hz)
  have hb' : ∀ x ∈ b, isDig x = true := fun z hz => hb z (List.mem_cons_of_mem _ hz)
  rw [valD_cons, valD_cons, valD_eq a, valD_eq b, hl]
  have h1 := (valD_bounds a 0 ha').2
  rw [hl] at h1
  simp only [Op.bytesLess, Bool.or_eq_true, Bool.and_eq_true, decide_eq_true_eq, beq_iff_eq] at h
  rcases h with h | ⟨h, h2⟩
  ·have hlt : x.toNat < y.toNat := UInt8.lt_iff_toNat_lt.1 h
   have h3 : (0 * 10 + (x.toNat - 48) + 1) * 10 ^ b.length ≤ (0 * 10 + (y.toNat - 48)) * 10 ^ b.length := Nat.mul_le_mul_right _ (by omega)
   rw [Nat.add_mul] at h3
   omega
  ·subst h
   have := less_val a b hl ha' hb' h2
   omega
theorem less_total : ∀ (a b : List UInt8), a.length = b.length → Op.bytesLess a b = true ∨ a = b ∨ Op.bytesLess b a = true
 | [], [], _ => Or.inr (Or.inl rfl)
 | [], _ :: _, hl => by simp at hl
 | _ :: _, [], hl => by simp at hl
 | x :: a, y :: b, hl => by
  simp only [List.length_cons, Nat.add_right_cancel_iff] at hl
  simp only [Op.bytesLess, Bool.or_eq_true, Bool.and_eq_true, decide_eq_true_eq, beq_iff_eq, List.cons.injEq]
  by_cases h1 : x < y
  ·exact Or.inl (Or.inl h1)
  ·by_cases h2 : y < x
   ·exact Or.inr (Or.inr (Or.inl h2))
   ·have : x = y := by
     apply UInt8.toNat.inj
     rw [UInt8.lt_iff_toNat_lt] at h1 h2
     omega
    subst this
    rcases less_total a b hl with h | h | h
    ·exact Or.inl (Or.inr ⟨rfl, h⟩)
    ·exact Or.inr (Or.inl ⟨rfl, h⟩)
    ·exact Or.inr (Or.inr (Or.inr ⟨rfl, h⟩))
theorem most_val : valD 0 most10 = 2147483647 := by decide
theorem most_dig : ∀ x ∈ most10, isDig x = true := by decide
theorem int_eq {w : List UInt8} (hd : ∀ b ∈ w, isDig b = true) (h0 : w ≠ []) (e : Nat) : intR w e = (match integer w with | .ok t => .ok (t, e) | .error x => .error x) := by
 unfold intR integer
 by_cases h10 : 10 < w.length
 ·rw [if_pos h10, if_pos (Or.inl h10)]
 ·rw [if_neg h10]
  have ha := atoi_digits hd h0 (by omega)
  have hN : atoiN w = (valD 0 w : Nat) := by unfold atoiN; rw [ha]
  have hK : atoiK w = true := by unfold atoiK; rw [ha]
  have hT := trimZ_val w
  have hTd : ∀ b ∈ trimZ w, isDig b = true := fun b hb => hd b (trimZ_mem w b hb)
  have key : ((trimZ w).length = 10 ∧ (Op.bytesLess (trimZ w) most10 || decide (trimZ w = most10)) = false) ↔ 2147483647 < valD 0 w := by
   by_cases hl : (trimZ w).length = 10
   ·have hlm : (trimZ w).length = most10.length := hl
    constructor
    ·rintro ⟨_, h2⟩
     rw [Bool.or_eq_false_iff] at h2
     rcases less_total (trimZ w) most10 hlm with h | h | h
     ·rw [h] at h2; exact absurd h2.1 (by simp)
     ·rw [h] at h2; exact absurd h2.2 (by simp)
     ·have := less_val _ _ hlm.symm most_dig hTd h
      rw [most_val, hT] at this
      exact this
    ·intro h
     refine ⟨hl, ?_⟩
     rw [Bool.or_eq_false_iff]
     constructor
     ·cases hb : Op.bytesLess (trimZ w) most10 with
      | false => rfl
      | true =>
       have := less_val _ _ hlm hTd most_dig hb
       rw [most_val, hT] at this
       omega
     ·simp only [decide_eq_false_iff_not]
      intro hb
      rw [hb, most_val] at hT
      omega
   ·constructor
    ·rintro ⟨h, _⟩; exact absurd h hl
    ·intro h
     exfalso
     have h1 := (valD_bounds (trimZ w) 0 hTd).2
     have h2 := trimZ_len w
     have h3 : (10 : Nat) ^ (trimZ w).length ≤ 10 ^ 9 := Nat.pow_le_pow_right (by omega) (by omega)
     rw [hT] at h1
     omega
  by_cases hm : 2147483647 < valD 0 w
  ·rw [if_pos (key.2 hm), if_pos (Or.inr (Or.inr (by rw [hN]; omega)))]
  ·rw [if_neg (fun h => hm (key.1 h)), if_neg (by rw [hN, hK]; simp; omega), hN, itoa_val hd h0]
theorem itoa_zero {x : Int} : Lib.itoa x = [48] ↔ x = 0 := by
 constructor
 ·intro h
  by_cases h0 : 0 ≤ x
  ·obtain ⟨m, rfl⟩ : ∃ m : Nat, x = (m : Int) := ⟨x.toNat, by omega⟩
   rw [itoa_nat] at h
   by_cases h9 : m < 10
   ·rw [Lib.decDigits_one h9] at h
    injection h with h _
    have := congrArg UInt8.toNat h
    rw [UInt8.toNat_ofNat_of_lt' (by show 48 + m < 256; omega)] at this
    have h48 : (48 : UInt8).toNat = 48 := rfl
    omega
   ·have hl := congrArg List.length h
    rw [Lib.decDigits, dif_neg h9] at hl
    have := Lib.nDigits_pos (m / 10)
    rw [List.length_append, Lib.decDigits_length] at hl
    simp at hl
    omega
  ·obtain ⟨m, rfl⟩ : ∃ m : Nat, x = -(m : Int) := ⟨(-x).toNat, by omega⟩
   rw [itoa_neg (by omega)] at h
   injection h with h _
   exact absurd h (by decide)
 ·intro h
  subst h
  have : (0 : Int) = ((0 : Nat) : Int) := rfl
  rw [this, itoa_nat, Lib.decDigits_one (by omega)]
  rfl
theorem prefix_sign {D : List UInt8} (hd : ∀ b ∈ D, isDig b = true) : Lib.trimPrefix D [45] = D ∧ Lib.trimPrefix ([45] ++ D) [45] = D := by
 constructor
 ·cases D with
  | nil => rfl
  | cons c r =>
   have : c ≠ 45 := by rintro rfl; exact absurd (hd _ List.mem_cons_self) (by decide)
   have h2 : (45 == c) = false := by simpa using fun h : 45 = c => this h.symm
   simp [Lib.trimPrefix, Lib.hasPrefix, List.isPrefixOf, h2]
 ·simp [Lib.trimPrefix, Lib.hasPrefix, List.isPrefixOf]
theorem real_none {whole part digits : List UInt8} {letter : UInt8} {e : Nat} : realR whole part 1 0 e = real whole part digits letter false e := by
 unfold realR real tooLong realTok power realText
 rw [before_eq, after_eq, count_left, count_right]
 by_cases h30 : 30 < (trimL whole).length + (trimR part).length
 ·simp [h30]
 ·simp [h30]
theorem real_some {whole part : List UInt8} {e m : Nat} (he : (expo false s e).2.2.2 = true) : (if 3 < (expDigits false s e).length then .error 7 else realR whole part (if (expo false s e).1 = 68 then 2 else 1) (expVal s e) m) = real whole part (expo false s e).2.1 (expo false s e).1 true m := by
 have hL : expL false s e = 69 ∨ expL false s e = 68 := by
  unfold expo at he
  split at he
  ·assumption
  ·simp at he
 have hx : expo false s e = (expL false s e, expSign false s e ++ expDigits false s e, runE false isDig s (expStart false s e), !decide (expDigits false s e = [])) := by unfold expo; rw [if_pos hL]
 have hne : expDigits false s e ≠ [] := by
  rw [hx] at he
  simpa using he
 have hdig : ∀ b ∈ expDigits false s e, isDig b = true := runC_all
 rw [hx]
 simp only
 have hlt : e < s.length := by
  rcases Nat.lt_or_ge e s.length with h | h
  ·exact h
  ·exfalso
   unfold expL at hL
   rw [atC_free, List.getElem?_eq_none h] at hL
   exact absurd hL (by decide)
 have hE : atE false s e = e + 1 := by rw [atE_free, if_pos hlt]
 have hS : expSign false s e = if atC false s (e + 1) = 45 then [45] else [] := by unfold expSign; rw [hE]
 have hpre : Lib.trimPrefix (expSign false s e ++ expDigits false s e) [45] = expDigits false s e := by
  rw [hS]
  split
  ·exact (prefix_sign hdig).2
  ·exact (prefix_sign hdig).1
 unfold real tooLong
 rw [hpre]
 by_cases h3 : 3 < (expDigits false s e).length
 ·simp [h3]
 ·rw [if_neg h3]
  have hval : atoiN (expSign false s e ++ expDigits false s e) = expVal s e := by
   unfold expVal
   rw [hS]
   by_cases h45 : atC false s (e + 1) = 45
   ·rw [if_pos h45, if_pos h45]
    unfold atoiN
    rw [List.singleton_append, atoi_minus hdig hne (by omega)]
   ·rw [if_neg h45, if_neg h45]
    unfold atoiN
    rw [List.nil_append, atoi_digits hdig hne (by omega)]
  unfold realR realTok power realText
  rw [before_eq, after_eq, count_left, count_right, hval]
  by_cases h30 : 30 < (trimL whole).length + (trimR part).length
  ·simp [h30]
  ·have hz := itoa_zero (x := expVal s e)
   have h3d : decide (3 < (expDigits false s e).length) = false := by simp [h3]
   have h30d : decide (30 < (trimL whole).length + (trimR part).length) = false := by simp [h30]
   rw [if_neg h30, h3d, h30d]
   simp only [Bool.false_and, Bool.or_self, Bool.false_eq_true, if_false, and_true, if_true]
   by_cases h68 : expL false s e = 68
   ·rw [if_pos h68, if_pos rfl, if_pos h68]
   ·rw [if_neg h68, if_neg (by decide), if_neg h68]
    by_cases h0 : expVal s e = 0
    ·rw [if_neg (by simp [h0]), if_pos (hz.2 h0)]
    ·rw [if_pos h0, if_neg (fun h => h0 (hz.1 h))]
     simp
theorem numberR_eq {c : UInt8} (h : s[n]? = some c) (hc : isDig c = true ∨ (c = 46 ∧ isDig ((s[n + 1]?).getD 0) = true)) : numberR s n = number false s n := by
 have hn := lt_of_get h
 have hw := digR_le (s := s) (n := n) (by omega)
 have hwhole : numWhole false s n = (s.drop n).take (digR s n) := (digR_eq).1
 have hrun : runE false isDig s n = n + digR s n := (digR_eq).2
 have hdig : ∀ b ∈ numWhole false s n, isDig b = true := runC_all
 have hwl : (numWhole false s n).length = digR s n := by rw [hwhole]; simp; omega
 have hdot : (!wordR s n && decide (s[n + digR s n]? = some 46)) = numDot false s n := by
  unfold numDot wordR
  rw [hrun]
  by_cases h46 : s[n + digR s n]? = some 46
  ·have ha : atC false s (n + digR s n) = 46 := by rw [atC_free, h46]; rfl
   rw [any_eq ha, ha]
   have : decide (numWhole false s n = []) = !decide (0 < digR s n) := by
    by_cases h0 : 0 < digR s n
    ·have : numWhole false s n ≠ [] := by intro hh; rw [hh] at hwl; simp at hwl; omega
     simp [h0, this]
    ·have : numWhole false s n = [] := List.eq_nil_of_length_eq_zero (by omega)
     simp [h0, this]
   rw [this]
   simp only [h46, decide_true, Bool.and_true, Bool.true_and]
   cases decide (0 < digR s n) <;> cases (dotted false s (n + digR s n)).2.2 <;> rfl
  ·have ha : atC false s (n + digR s n) ≠ 46 := by
    rw [atC_free]
    cases hg : s[n + digR s n]? with
    | none => decide
    | some x => intro hh; apply h46; rw [hg]; simpa using hh
   simp [h46, ha]
 have hdotne : numDot false s n = false → numWhole false s n ≠ [] := by
  intro hf hnil
  rcases hc with hc | ⟨hc1, hc2⟩
  ·have : digR s n = 0 := by rw [← hwl, hnil]; rfl
   unfold digR at this
   rw [List.drop_eq_getElem_cons hn, List.takeWhile_cons] at this
   rw [List.getElem?_eq_getElem hn] at h
   injection h with h
   rw [h, hc] at this
   simp at this
  ·unfold numDot at hf
   have h0 : digR s n = 0 := by rw [← hwl, hnil]; rfl
   have ha : atC false s (n + digR s n) = 46 := by rw [h0, Nat.add_zero, atC_free, h, hc1]; rfl
   rw [hrun, ha, hnil] at hf
   simp at hf
 unfold numberR number
 rw [hdot, ← hwhole]
 cases hD : numDot false s n with
 | true =>
  have hlt : n + digR s n < s.length := by
   have := hdot
   rw [hD, Bool.and_eq_true, decide_eq_true_eq] at this
   exact lt_of_get this.2
  have hE : atE false s (n + digR s n) = n + digR s n + 1 := by rw [atE_free, if_pos hlt]
  have hend : numEnd false s n = n + digR s n + 1 + digR s (n + digR s n + 1) := by
   unfold numEnd; rw [if_pos hD, hrun, hE]; exact (digR_eq).2
  have hpart : numPart false s n = (s.drop (n + digR s n + 1)).take (digR s (n + digR s n + 1)) := by
   unfold numPart; rw [if_pos hD, hrun, hE]; exact (digR_eq).1
  rw [if_pos rfl, ← hend, ← hpart]
  simp only [Bool.not_true, Bool.false_and, Bool.false_eq_true, if_false]
  unfold numTail
  cases hq : (expo false s (numEnd false s n)).2.2.2 with
  | true =>
   rw [if_pos rfl]
   simp only [if_true]
   exact real_some hq
  | false =>
   rw [if_neg (by simp), if_pos rfl]
   exact real_none
 | false =>
  have hend : numEnd false s n = n + digR s n := by unfold numEnd; rw [if_neg (by rw [hD]; simp), hrun]
  have hpart : numPart false s n = [] := by unfold numPart; rw [if_neg (by rw [hD]; simp)]
  rw [if_neg (by simp), ← hend, hpart]
  unfold numTail
  have hq1 : ∀ {α : Type} {x y : α}, (expo false s (numEnd false s n)).2.2.2 = true → (if (!false && !(expo false s (numEnd false s n)).2.2.2) = true then x else y) = y := by
   intro α x y h; rw [h]; rfl
  have hq2 : ∀ {α : Type} {x y : α}, (expo false s (numEnd false s n)).2.2.2 = false → (if (!false && !(expo false s (numEnd false s n)).2.2.2) = true then x else y) = x := by
   intro α x y h; rw [h]; rfl
  cases hq : (expo false s (numEnd false s n)).2.2.2 with
  | true =>
   simp only [hq, Bool.not_false, Bool.not_true, Bool.and_false, Bool.false_eq_true, if_false, if_true]
   exact real_some hq
  | false =>
   simp only [hq, Bool.not_false, Bool.and_true, Bool.false_eq_true, if_false, if_true]
   exact int_eq hdig (hdotne hD) _
end
end Go.Abs

set_option linter.unusedVariables false
set_option linter.unusedSimpArgs false
set_option maxRecDepth 100000
namespace Go.Abs
open Go Go.Proofs
section
variable {μ : Mu} {s : List UInt8}
theorem u8_eq2 {x y : UInt8} : decide ((x.toNat : Int) = (y.toNat : Int)) = decide (x = y) := by
 by_cases h : x = y
 ·subst h; simp
 ·have : x.toNat ≠ y.toNat := fun e => h (UInt8.toNat.inj e)
  simp [h]; omega
def charsE (t : List UInt8) (e : Nat) : Except Int (Tok × Nat) := if 60 < t.length then .error 8 else .ok (⟨1, 6, charsT t⟩, e)
noncomputable def end81 (μ : Mu) (acc : List UInt8) (i : Nat) (a b c d : Int) (t : List UInt8) : Option (List UInt8 × Nat) → St
 | none => XL81_4_2 a b t c d μ
 | some (x, k) => stN μ XL81_4_0 (charsE (acc ++ x) (i + k))
theorem loop81 (hs : s.length ≤ 200000) {q : UInt8} {a b c d : Int} {t : List UInt8} : ∀ (k i : Nat) (acc : List UInt8), s.length - i ≤ k → i ≤ s.length → acc.length ≤ i →
  L81_4 (ev E) s (q.toNat : Int) acc (i : Int) a b t c d μ = some (end81 μ acc i a b c d t (quotL q (s.drop i))) := by
 intro k
 induction k using Nat.strongRecOn with
 | _ k ih =>
  intro i acc hk hi ha
  by_cases hlt : i < s.length
  ·have hd := List.drop_eq_getElem_cons hlt
   refine ev_loop ?_
   rw [nfL81_4, lt_t hlt, cond_true, strAt_lt hlt, opt_s, u8_eq2, wsucc (by omega), cut1 hlt, opt_s, small_le (by simp; omega), gB_t, hd]
   by_cases hq : s[i] = q
   ·have hq1 : decide (s[i] = q) = true := by simp [hq]
    rw [hq1, Bool.not_true, cond_false, hq]
    have h11 : ∀ {i : Nat}, i < s.length → (opt (G81_11 (ev E) acc (i : Int) a b t c d μ) fun st => runK E.P (ev E) H81 [] st (segEnd H81 [(0, 0), (4, 0), (5, 0), (6, 0), (7, 0)])) = some (stN μ XG81_8_1 (charsE acc (i + 1))) := by
     intro i hlt
     have : G81_11 (ev E) acc (i : Int) a b t c d μ = some (stN μ XG81_11_0 (charsE acc (i + 1))) := by
      refine ev_seg ?_
      rw [nfG81_11]
      unfold charsE
      by_cases h60 : 60 < acc.length
      ·have : decide ((60 : Int) < (acc.length : Int)) = true := by simp; omega
       rw [this, cond_true, if_pos h60]
       rfl
      ·have : decide ((60 : Int) < (acc.length : Int)) = false := by simp; omega
       have hG : G81_13 (ev E) acc (i : Int) a b t c d μ = some (XG81_13_0 1 6 (charsT acc) ((i + 1 : Nat) : Int) 0 μ) := by
        refine ev_seg ?_
        rw [nfG81_13, law42 (by omega)]
        simp only [callK_ret, getTup_t, opt_s, uncons_c, getInt_i, getStr_s, getBool_b, isNilL_n, gB_t, cond_true, cond_false, Bool.not_true, Bool.not_false, getSl_s, getSl_o, getOsl_o]
        rw [wsucc (by omega)]
       rw [this, cond_false, if_neg h60, hG, opt_s, nfXG81_13_0]
       rfl
     rw [this, opt_s]
     cases charsE acc (i + 1) with
     | ok q => exact nfXG81_11_0 _ _ _ _ _ _ _
     | error e => exact nfXG81_11_0 _ _ _ _ _ _ _
    by_cases hlt2 : i + 1 < s.length ∧ s[i + 1]? = some q
    ·obtain ⟨h2, h3⟩ := hlt2
     have hd2 := List.drop_eq_getElem_cons h2
     have hg2 : s[i + 1] = q := by rw [List.getElem?_eq_getElem h2] at h3; simpa using h3
     have hG : G81_8 (ev E) s (q.toNat : Int) acc (i : Int) a b t c d μ = some (XG81_8_0 s (q.toNat : Int) (acc ++ [q]) ((i + 1 : Nat) : Int) a b t c d μ) := by
      refine ev_seg ?_
      have hq2 : decide (q = q) = true := by simp
      rw [nfG81_8, wsucc (by omega), lt_t h2, cond_true, strAt_lt h2, opt_s, u8_eq2, hg2, hq2, cond_true, cut1 hlt, opt_s, small_le (by simp; omega), gB_t, hq]
     rw [hG, opt_s, nfXG81_8_0, wsucc (by omega), ih (s.length - (i + 1 + 1)) (by omega) (i + 1 + 1) (acc ++ [q]) (Nat.le_refl _) (by omega) (by simp; omega), hd2, hg2, quotL_two]
     cases quotL q (s.drop (i + 1 + 1)) with
     | none => rfl
     | some x =>
      simp only [end81, Option.map_some]
      have e1 : i + 1 + 1 + x.2 = i + (x.2 + 2) := by omega
      rw [e1]
      simp
    ·have hne : ∀ d u, s.drop (i + 1) = d :: u → d ≠ q := by
      intro d u hdu hdq
      apply hlt2
      have h2 : i + 1 < s.length := by
       rcases Nat.lt_or_ge (i + 1) s.length with h | h
       ·exact h
       ·rw [List.drop_eq_nil_of_le h] at hdu; cases hdu
      refine ⟨h2, ?_⟩
      rw [List.drop_eq_getElem_cons h2] at hdu
      injection hdu with hdu _
      rw [List.getElem?_eq_getElem h2, hdu, hdq]
     have hG : G81_8 (ev E) s (q.toNat : Int) acc (i : Int) a b t c d μ = some (stN μ XG81_8_1 (charsE acc (i + 1))) := by
      refine ev_seg ?_
      rw [nfG81_8, wsucc (by omega)]
      by_cases h2 : i + 1 < s.length
      ·have h3 : s[i + 1] ≠ q := fun h => hlt2 ⟨h2, by rw [List.getElem?_eq_getElem h2, h]⟩
       have h4 : decide (s[i + 1] = q) = false := by simp [h3]
       rw [lt_t h2, cond_true, strAt_lt h2, opt_s, u8_eq2, h4, cond_false, h11 hlt]
      ·rw [lt_f (by omega), cond_false, h11 hlt]
     rw [hG, opt_s, quotL_end hne]
     simp only [end81, List.append_nil]
     cases charsE acc (i + 1) with
     | ok q => exact nfXG81_8_1 _ _ _ _ _ _ _
     | error e => exact nfXG81_8_1 _ _ _ _ _ _ _
   ·have hq1 : decide (s[i] = q) = false := by simp [hq]
    rw [hq1, Bool.not_false, cond_true, ih (s.length - (i + 1)) (by omega) (i + 1) (acc ++ [s[i]]) (Nat.le_refl _) (by omega) (by simp; omega), quotL_ne hq]
    cases quotL q (s.drop (i + 1)) with
    | none => rfl
    | some x =>
     simp only [end81, Option.map_some]
     have e1 : i + 1 + x.2 = i + (x.2 + 1) := by omega
     rw [e1]
     simp
  ·refine ev_loop ?_
   rw [nfL81_4, lt_f (by omega), cond_false, List.drop_eq_nil_of_le (by omega)]
   rfl
theorem law81 (hs : s.length ≤ 200000) {n : Nat} (hn : n < s.length) : (ev E).call 81 [LV.str s, LV.int .i64 (n : Int)] μ = some (.ret (.cv (readCV (quoted s n))) μ) := by
 refine ev_call ?_
 rw [nf81, strAt_lt hn, opt_s, wsucc (by omega), loop81 hs (s.length - (n + 1)) (n + 1) [] (Nat.le_refl _) (by omega) (by simp), opt_s]
 unfold quoted
 rw [List.getElem?_eq_getElem hn, Option.getD_some]
 cases hq : quotL s[n] (s.drop (n + 1)) with
 | none => exact nfXL81_4_2 _ _ _ _ _ _ _
 | some x =>
  obtain ⟨t, k⟩ := x
  simp only [end81, List.nil_append]
  unfold charsE
  by_cases h60 : 60 < t.length
  ·rw [if_pos h60]; exact nfXL81_4_0 _ _ _ _ _ _ _
  ·rw [if_neg h60]; exact nfXL81_4_0 _ _ _ _ _ _ _
theorem loop58 (hs : s.length ≤ 200000) {n : Nat} {a b c d : Int} {t : List UInt8} : ∀ (k i : Nat), i + k = s.length →
  L58_4 (ev E) s (n : Int) (i : Int) a b t c d μ = some (XL58_4_0 s (n : Int) ((i + ((s.drop i).takeWhile isPar).length : Nat) : Int) a b t c d μ) := by
 have e95 : ∀ c : UInt8, decide ((c.toNat : Int) = 95) = decide (c.toNat = 95) := fun c => by simp; omega
 intro k
 induction k with
 | zero =>
  intro i hi
  refine ev_loop ?_
  rw [nfL58_4, lt_f (by omega), cond_false, List.drop_eq_nil_of_le (by omega)]
  rfl
 | succ k ih =>
  intro i hi
  have hlt : i < s.length := by omega
  have hy : ∀ {q : Bool}, isPar s[i] = q → (q = true → L58_4 (ev E) s (n : Int) ((i + 1 : Nat) : Int) a b t c d μ = some (XL58_4_0 s (n : Int) ((i + ((s.drop i).takeWhile isPar).length : Nat) : Int) a b t c d μ)) ∧ (q = false → i + ((s.drop i).takeWhile isPar).length = i) := by
   intro q hq
   rw [List.drop_eq_getElem_cons hlt, List.takeWhile_cons, hq]
   constructor
   ·intro h
    rw [ih (i + 1) (by omega), h]
    simp only [if_true, List.length_cons]
    congr 3
    omega
   ·intro h; rw [h]; rfl
  refine ev_loop ?_
  rw [nfL58_4, lt_t hlt, cond_true, strAt_lt hlt, opt_s, law96]
  simp only [callK_ret, getTup_t, opt_s, uncons_c, getInt_i, getStr_s, getBool_b, isNilL_n, gB_t, cond_true, cond_false, Bool.not_true, Bool.not_false, getSl_s, getSl_o, getOsl_o, e95]
  rw [wsucc (by omega)]
  have hp : isPar s[i] = (isLet s[i] || isDig s[i] || decide (s[i].toNat = 95)) := rfl
  cases h1 : isLet s[i] with
  | true =>
   rw [cond_true]
   exact (hy (by rw [hp, h1]; rfl)).1 rfl
  | false =>
   rw [cond_false, law67]
   simp only [callK_ret, getTup_t, opt_s, uncons_c, getInt_i, getStr_s, getBool_b, isNilL_n, gB_t, cond_true, cond_false, Bool.not_true, Bool.not_false, getSl_s, getSl_o, getOsl_o]
   cases h2 : isDig s[i] with
   | true =>
    rw [cond_true]
    exact (hy (by rw [hp, h1, h2]; rfl)).1 rfl
   | false =>
    rw [cond_false]
    cases h3 : decide (s[i].toNat = 95) with
    | true =>
     rw [cond_true]
     exact (hy (by rw [hp, h1, h2, h3]; rfl)).1 rfl
    | false =>
     rw [cond_false, (hy (q := false) (by rw [hp, h1, h2, h3]; rfl)).2 rfl]
def syms : List (List UInt8 × List UInt8) := [([60, 61], [46, 76, 69, 46]), ([62, 61], [46, 71, 69, 46]), ([61, 61], [46, 69, 81, 46]), ([47, 61], [46, 78, 69, 46]), ([60], [46, 76, 84, 46]), ([62], [46, 71, 84, 46])]
def symsCV (l : List (List UInt8 × List UInt8)) : List CV := l.map fun x => CV.agg [CV.str x.1, CV.str x.2]
def toE : Except Int (Tok × Nat) → Nat
 | .ok q => q.2
 | .error _ => 0
def foldB (s : List UInt8) (n : Nat) : List (List UInt8 × List UInt8) → Except Int (Tok × Nat) → Except Int (Tok × Nat)
 | [], r => r
 | x :: l, r => foldB s n l (if beginsR s n x.1 = true ∧ toE r < n + x.1.length then .ok (⟨2, 0, x.2⟩, n + x.1.length) else r)
def stB {α : Sort _} (X : Int → Int → List UInt8 → Int → Int → α) : Except Int (Tok × Nat) → α
 | .ok q => X q.1.kind q.1.type q.1.text (q.2 : Int) 0
 | .error e => X 0 0 [] 0 e
theorem loop58_30 (hs : s.length ≤ 200000) {n : Nat} (hn : n ≤ s.length) {a b c d : Int} {t : List UInt8} {l : List (List UInt8 × List UInt8)} (hl : l.length ≤ 100) (hw : ∀ x ∈ l, x.1.length ≤ 100) : ∀ (k j : Nat) (r : Except Int (Tok × Nat)), j + k = l.length →
  stB (fun p q u v w => L58_30 (ev E) s (n : Int) (symsCV l) (l.length : Int) (j : Int) a b t c d p q u v w μ) r = some (stB (fun p q u v w => XL58_30_1 s (n : Int) a b t c d p q u v w μ) (foldB s n (l.drop j) r)) := by
 intro k
 induction k with
 | zero =>
  intro j r hj
  rw [List.drop_eq_nil_of_le (by omega)]
  cases r with
  | ok q =>
   refine ev_loop ?_
   rw [nfL58_30, lt_f (by omega), cond_false]
   rfl
  | error e =>
   refine ev_loop ?_
   rw [nfL58_30, lt_f (by omega), cond_false]
   rfl
 | succ k ih =>
  intro j r hj
  have hlt : j < l.length := by omega
  have hg : slAt (symsCV l) (j : Int) = some (CV.agg [CV.str l[j].1, CV.str l[j].2]) := by rw [slAt_get]; simp [symsCV, hlt]
  have hrd : ∀ {β : Type} {k : List UInt8 → List UInt8 → Option β}, rd126 (LV.cv (CV.agg [CV.str l[j].1, CV.str l[j].2])) k = k l[j].1 l[j].2 := rfl
  have hwl := hw _ (List.getElem_mem hlt)
  rw [List.drop_eq_getElem_cons hlt, foldB]
  have hih := fun r => ih (j + 1) r (by omega)
  cases r with
  | ok q =>
   refine ev_loop ?_
   rw [nfL58_30, lt_t hlt, cond_true, hg, opt_s, hrd, law99 hs hn (by omega)]
   simp only [callK_ret, getTup_t, opt_s, uncons_c, getInt_i, getStr_s, getBool_b, isNilL_n, gB_t, cond_true, cond_false, Bool.not_true, Bool.not_false, getSl_s, getSl_o, getOsl_o]
   rw [wsucc (by omega), wadd (by omega)]
   cases hb : beginsR s n l[j].1 with
   | false =>
    rw [cond_false, if_neg (by simp)]
    exact hih (.ok q)
   | true =>
    rw [cond_true]
    by_cases h2 : q.2 < n + l[j].1.length
    ·rw [lt_t h2, cond_true, if_pos ⟨rfl, h2⟩]
     exact hih (.ok (⟨2, 0, l[j].2⟩, n + l[j].1.length))
    ·rw [lt_f (by omega), cond_false, if_neg (fun h => h2 h.2)]
     exact hih (.ok q)
  | error e =>
   refine ev_loop ?_
   rw [nfL58_30, lt_t hlt, cond_true, hg, opt_s, hrd, law99 hs hn (by omega)]
   simp only [callK_ret, getTup_t, opt_s, uncons_c, getInt_i, getStr_s, getBool_b, isNilL_n, gB_t, cond_true, cond_false, Bool.not_true, Bool.not_false, getSl_s, getSl_o, getOsl_o]
   rw [wsucc (by omega), wadd (by omega)]
   cases hb : beginsR s n l[j].1 with
   | false =>
    rw [cond_false, if_neg (by simp)]
    exact hih (.error e)
   | true =>
    rw [cond_true]
    by_cases h2 : 0 < n + l[j].1.length
    ·have := lt_t h2
     have e0 : ((0 : Nat) : Int) = 0 := rfl
     rw [e0] at this
     rw [this, cond_true, if_pos ⟨rfl, h2⟩]
     exact hih (.ok (⟨2, 0, l[j].2⟩, n + l[j].1.length))
    ·have := lt_f (n := 0) (m := n + l[j].1.length) (by omega)
     have e0 : ((0 : Nat) : Int) = 0 := rfl
     rw [e0] at this
     rw [this, cond_false, if_neg (fun h => h2 h.2)]
     exact hih (.error e)
def selfs (l : List (List UInt8)) : List (List UInt8 × List UInt8) := l.map fun x => (x, x)
theorem loop58_36 (hs : s.length ≤ 200000) {n : Nat} (hn : n ≤ s.length) {a b c d : Int} {t : List UInt8} {l : List (List UInt8)} (hl : l.length ≤ 100) (hw : ∀ x ∈ l, x.length ≤ 100) : ∀ (k j : Nat) (r : Except Int (Tok × Nat)), j + k = l.length →
  stB (fun p q u v w => L58_36 (ev E) s (n : Int) (strsCV l) (l.length : Int) (j : Int) a b t c d p q u v w μ) r = some (stB (fun p q u v w => XL58_36_1 a b t c d p q u v w μ) (foldB s n (selfs (l.drop j)) r)) := by
 intro k
 induction k with
 | zero =>
  intro j r hj
  rw [List.drop_eq_nil_of_le (by omega)]
  cases r with
  | ok q =>
   refine ev_loop ?_
   rw [nfL58_36, lt_f (by omega), cond_false]
   rfl
  | error e =>
   refine ev_loop ?_
   rw [nfL58_36, lt_f (by omega), cond_false]
   rfl
 | succ k ih =>
  intro j r hj
  have hlt : j < l.length := by omega
  have hg : slAt (strsCV l) (j : Int) = some (CV.str l[j]) := by rw [slAt_get]; simp [strsCV, hlt]
  have hwl := hw _ (List.getElem_mem hlt)
  have hsel : selfs (l[j] :: l.drop (j + 1)) = (l[j], l[j]) :: selfs (l.drop (j + 1)) := rfl
  rw [List.drop_eq_getElem_cons hlt, hsel, foldB]
  have hih := fun r => ih (j + 1) r (by omega)
  cases r with
  | ok q =>
   refine ev_loop ?_
   rw [nfL58_36, lt_t hlt, cond_true, hg, opt_s, getStr_cv, opt_s, law99 hs hn (by omega)]
   simp only [callK_ret, getTup_t, opt_s, uncons_c, getInt_i, getStr_s, getBool_b, isNilL_n, gB_t, cond_true, cond_false, Bool.not_true, Bool.not_false, getSl_s, getSl_o, getOsl_o]
   rw [wsucc (by omega), wadd (by omega)]
   cases hb : beginsR s n l[j] with
   | false =>
    rw [cond_false, if_neg (by simp)]
    exact hih (.ok q)
   | true =>
    rw [cond_true]
    by_cases h2 : q.2 < n + l[j].length
    ·rw [lt_t h2, cond_true, if_pos ⟨rfl, h2⟩]
     exact hih (.ok (⟨2, 0, l[j]⟩, n + l[j].length))
    ·rw [lt_f (by omega), cond_false, if_neg (fun h => h2 h.2)]
     exact hih (.ok q)
  | error e =>
   refine ev_loop ?_
   rw [nfL58_36, lt_t hlt, cond_true, hg, opt_s, getStr_cv, opt_s, law99 hs hn (by omega)]
   simp only [callK_ret, getTup_t, opt_s, uncons_c, getInt_i, getStr_s, getBool_b, isNilL_n, gB_t, cond_true, cond_false, Bool.not_true, Bool.not_false, getSl_s, getSl_o, getOsl_o]
   rw [wsucc (by omega), wadd (by omega)]
   cases hb : beginsR s n l[j] with
   | false =>
    rw [cond_false, if_neg (by simp)]
    exact hih (.error e)
   | true =>
    rw [cond_true]
    by_cases h2 : 0 < n + l[j].length
    ·have := lt_t h2
     have e0 : ((0 : Nat) : Int) = 0 := rfl
     rw [e0] at this
     rw [this, cond_true, if_pos ⟨rfl, h2⟩]
     exact hih (.ok (⟨2, 0, l[j]⟩, n + l[j].length))
    ·have := lt_f (n := 0) (m := n + l[j].length) (by omega)
     have e0 : ((0 : Nat) : Int) = 0 := rfl
     rw [e0] at this
     rw [this, cond_false, if_neg (fun h => h2 h.2)]
     exact hih (.error e)
theorem law56 : (ev E).call 56 [] μ = some (.ret (LV.osl (strsCV signsS)) μ) := ev_call (by rw [nf56]; rfl)
theorem law100 : (ev E).call 100 [] μ = some (.ret (LV.osl (symsCV syms)) μ) := ev_call (by rw [nf100]; rfl)
def bestR (s : List UInt8) (n : Nat) : Except Int (Tok × Nat) := foldB s n (selfs signsS) (foldB s n syms (.error 7))
theorem seg58_28 (hs : s.length ≤ 200000) {n : Nat} (hn : n ≤ s.length) {a b c d : Int} {t : List UInt8} : G58_28 (ev E) s (n : Int) a b t c d μ = some (stN μ XG58_28_1 (bestR s n)) := by
 refine ev_seg ?_
 rw [nfG58_28, law100]
 simp only [callK_ret, getTup_t, opt_s, uncons_c, getInt_i, getStr_s, getBool_b, isNilL_n, gB_t, cond_true, cond_false, Bool.not_true, Bool.not_false, getSl_s, getSl_o, getOsl_o]
 have h1 := loop58_30 (μ := μ) hs hn (a := a) (b := b) (c := c) (d := d) (t := t) (l := syms) (by decide) (by decide) syms.length 0 (.error 7) (by omega)
 have e0 : ((0 : Nat) : Int) = 0 := rfl
 have e1 : (symsCV syms).length = syms.length := rfl
 have e2 : (strsCV signsS).length = signsS.length := rfl
 rw [e0, List.drop_zero] at h1
 simp only [stB] at h1
 have h2 : ∀ r, stB (fun p q u v w => L58_36 (ev E) s (n : Int) (strsCV signsS) (signsS.length : Int) 0 a b t c d p q u v w μ) r = some (stB (fun p q u v w => XL58_36_1 a b t c d p q u v w μ) (foldB s n (selfs signsS) r)) := by
  intro r
  have := loop58_36 (μ := μ) hs hn (a := a) (b := b) (c := c) (d := d) (t := t) (l := signsS) (by decide) (by decide) signsS.length 0 r (by omega)
  rw [e0, List.drop_zero] at this
  exact this
 rw [e1, h1, opt_s]
 unfold bestR
 have h3 := h2 (foldB s n syms (.error 7))
 have fin : ∀ r, runK E.P (ev E) H58 [.block 9, .seq (codeAt E.P 58 [1, 1, 1, 1, 1, 1])] (stB (fun p q u v w => XL58_36_1 a b t c d p q u v w μ) r) (segEnd H58 [(4, 0)]) = some (stN μ XG58_28_1 r) := by
  intro r
  cases r with
  | ok q => exact nfXL58_36_1 _ _ _ _ _ _ _ _ _ _ _ _
  | error e => exact nfXL58_36_1 _ _ _ _ _ _ _ _ _ _ _ _
 cases hr : foldB s n syms (.error 7) with
 | ok q =>
  rw [hr] at h3
  simp only [stB] at h3 ⊢
  rw [nfXL58_30_1, law56]
  simp only [callK_ret, getTup_t, opt_s, uncons_c, getInt_i, getStr_s, getBool_b, isNilL_n, gB_t, cond_true, cond_false, Bool.not_true, Bool.not_false, getSl_s, getSl_o, getOsl_o]
  rw [e2, h3, opt_s]
  exact fin _
 | error e =>
  rw [hr] at h3
  simp only [stB] at h3 ⊢
  rw [nfXL58_30_1, law56]
  simp only [callK_ret, getTup_t, opt_s, uncons_c, getInt_i, getStr_s, getBool_b, isNilL_n, gB_t, cond_true, cond_false, Bool.not_true, Bool.not_false, getSl_s, getSl_o, getOsl_o]
  rw [e2, h3, opt_s]
  exact fin _
def findR (s : List UInt8) (n : Nat) (l : List (List UInt8)) (kind type : Int) (els : Except Int (Tok × Nat)) : Except Int (Tok × Nat) :=
 match l.find? (beginsR s n) with | some w => .ok (⟨kind, type, w⟩, n + w.length) | none => els
theorem loop58_14 (hs : s.length ≤ 200000) {n : Nat} (hn : n ≤ s.length) {a b c d : Int} {t : List UInt8} {l : List (List UInt8)} (hl : l.length ≤ 100) (hw : ∀ x ∈ l, x.length ≤ 100) : ∀ (k j : Nat), j + k = l.length →
  L58_14 (ev E) s (n : Int) (strsCV l) (l.length : Int) (j : Int) a b t c d μ = some (match (l.drop j).find? (beginsR s n) with | some w => XL58_14_0 2 0 w ((n + w.length : Nat) : Int) 0 μ | none => XL58_14_2 s (n : Int) a b t c d μ) := by
 intro k
 induction k with
 | zero =>
  intro j hj
  refine ev_loop ?_
  rw [nfL58_14, lt_f (by omega), cond_false, List.drop_eq_nil_of_le (by omega)]
  rfl
 | succ k ih =>
  intro j hj
  have hlt : j < l.length := by omega
  have hg : slAt (strsCV l) (j : Int) = some (CV.str l[j]) := by rw [slAt_get]; simp [strsCV, hlt]
  have hwl := hw _ (List.getElem_mem hlt)
  refine ev_loop ?_
  rw [nfL58_14, lt_t hlt, cond_true, hg, opt_s, getStr_cv, opt_s, law99 hs hn (by omega)]
  simp only [callK_ret, getTup_t, opt_s, uncons_c, getInt_i, getStr_s, getBool_b, isNilL_n, gB_t, cond_true, cond_false, Bool.not_true, Bool.not_false, getSl_s, getSl_o, getOsl_o]
  rw [wsucc (by omega), wadd (by omega), ih (j + 1) (by omega), List.drop_eq_getElem_cons hlt, List.find?_cons]
  cases hb : beginsR s n l[j] <;> rfl
theorem loop58_20 (hs : s.length ≤ 200000) {n : Nat} (hn : n ≤ s.length) {a b c d : Int} {t : List UInt8} {l : List (List UInt8)} (hl : l.length ≤ 100) (hw : ∀ x ∈ l, x.length ≤ 100) : ∀ (k j : Nat), j + k = l.length →
  L58_20 (ev E) s (n : Int) (strsCV l) (l.length : Int) (j : Int) a b t c d μ = some (match (l.drop j).find? (beginsR s n) with | some w => XL58_20_0 1 5 w ((n + w.length : Nat) : Int) 0 μ | none => XL58_20_2 a b t c d μ) := by
 intro k
 induction k with
 | zero =>
  intro j hj
  refine ev_loop ?_
  rw [nfL58_20, lt_f (by omega), cond_false, List.drop_eq_nil_of_le (by omega)]
  rfl
 | succ k ih =>
  intro j hj
  have hlt : j < l.length := by omega
  have hg : slAt (strsCV l) (j : Int) = some (CV.str l[j]) := by rw [slAt_get]; simp [strsCV, hlt]
  have hwl := hw _ (List.getElem_mem hlt)
  refine ev_loop ?_
  rw [nfL58_20, lt_t hlt, cond_true, hg, opt_s, getStr_cv, opt_s, law99 hs hn (by omega)]
  simp only [callK_ret, getTup_t, opt_s, uncons_c, getInt_i, getStr_s, getBool_b, isNilL_n, gB_t, cond_true, cond_false, Bool.not_true, Bool.not_false, getSl_s, getSl_o, getOsl_o]
  rw [wsucc (by omega), wadd (by omega), ih (j + 1) (by omega), List.drop_eq_getElem_cons hlt, List.find?_cons]
  cases hb : beginsR s n l[j] <;> rfl
def wordE (s : List UInt8) (n : Nat) : Except Int (Tok × Nat) := findR s n wordsS 2 0 (findR s n [trueS, falseS] 1 5 (.error 7))
def nextR (s : List UInt8) (n : Nat) (c : UInt8) : Except Int (Tok × Nat) :=
 if isLet c then (if 31 < ((s.drop n).takeWhile isPar).length then .error 4 else .ok (⟨0, 0, ((s.drop n).takeWhile isPar).map upB⟩, n + ((s.drop n).takeWhile isPar).length))
 else if isDig c || (decide (c = 46) && isDig ((s[n + 1]?).getD 0)) then numberR s n
 else if c = 46 then wordE s n
 else if c = 39 ∨ c = 34 then quoted s n
 else bestR s n
theorem rd88_read {β : Type} {q : Except Int (Tok × Nat)} {k : Int → Int → List UInt8 → Int → Int → Option β} : rd88 (.cv (readCV q)) k = stB k q := by cases q <;> rfl
theorem seg58_11 (hs : s.length ≤ 200000) {n : Nat} (hn : n < s.length) {x : Bool} {a b c d : Int} {t : List UInt8} : G58_11 (ev E) s (n : Int) (s[n].toNat : Int) x a b t c d μ = some (
  if x = true then stN μ XG58_11_0 (numberR s n) else if s[n] = 46 then stN μ XG58_11_0 (wordE s n) else if s[n] = 39 ∨ s[n] = 34 then stN μ XG58_11_0 (quoted s n) else XG58_11_2 s (n : Int) a b t c d μ) := by
 have e46 : ∀ c : UInt8, decide ((c.toNat : Int) = 46) = decide (c = 46) := fun c => u8_eq (k := 46) (by omega)
 have e39 : ∀ c : UInt8, decide ((c.toNat : Int) = 39) = decide (c = 39) := fun c => u8_eq (k := 39) (by omega)
 have e34 : ∀ c : UInt8, decide ((c.toNat : Int) = 34) = decide (c = 34) := fun c => u8_eq (k := 34) (by omega)
 have hst : ∀ (q : Except Int (Tok × Nat)), stB (fun p q u v w => some (XG58_11_0 p q u v w μ)) q = some (stN μ XG58_11_0 q) := by intro q; cases q <;> rfl
 refine ev_seg ?_
 rw [nfG58_11, law98 hs (by omega), e46, e39, e34, law81 hs hn, callK_ret, callK_ret, rd88_read, rd88_read, hst, hst]
 cases x with
 | true => rw [cond_true, if_pos rfl]
 | false =>
  rw [cond_false, if_neg (by simp)]
  by_cases h46 : s[n] = 46
  ·have : decide (s[n] = 46) = true := by simp [h46]
   rw [this, cond_true, if_pos h46, law55]
   simp only [callK_ret, getTup_t, opt_s, uncons_c, getInt_i, getStr_s, getBool_b, isNilL_n, gB_t, cond_true, cond_false, Bool.not_true, Bool.not_false, getSl_s, getSl_o, getOsl_o]
   have e2 : (strsCV wordsS).length = wordsS.length := rfl
   have e0 : ((0 : Nat) : Int) = 0 := rfl
   have h14 := loop58_14 (μ := μ) hs (Nat.le_of_lt hn) (a := a) (b := b) (c := c) (d := d) (t := t) (l := wordsS) (by decide) (by decide) wordsS.length 0 (by omega)
   rw [e0, List.drop_zero] at h14
   have h20 := loop58_20 (μ := μ) hs (Nat.le_of_lt hn) (a := a) (b := b) (c := c) (d := d) (t := t) (l := [trueS, falseS]) (by decide) (by decide) 2 0 (by simp)
   rw [e0, List.drop_zero] at h20
   rw [e2, h14, opt_s]
   unfold wordE findR
   cases hf : wordsS.find? (beginsR s n) with
   | some w => simp only; rw [nfXL58_14_0]; rfl
   | none =>
    simp only
    have e3 : [CV.str ([46, 84, 82, 85, 69, 46] : List UInt8), CV.str ([46, 70, 65, 76, 83, 69, 46] : List UInt8)] = strsCV [trueS, falseS] := rfl
    have e4 : (2 : Int) = (([trueS, falseS] : List (List UInt8)).length : Int) := rfl
    rw [nfXL58_14_2, e3]
    rw [← e4] at h20
    rw [h20, opt_s]
    cases hf2 : ([trueS, falseS] : List (List UInt8)).find? (beginsR s n) with
    | some w => simp only; rw [nfXL58_20_0]; rfl
    | none => simp only; rw [nfXL58_20_2]; rfl
  ·have : decide (s[n] = 46) = false := by simp [h46]
   rw [this, cond_false, if_neg h46]
   by_cases h39 : s[n] = 39
   ·simp [h39]
   ·by_cases h34 : s[n] = 34
    ·simp [h34]
    ·simp [h39, h34]
theorem law58 (hs : s.length ≤ 200000) {n : Nat} (hn : n < s.length) : (ev E).call 58 [LV.str s, LV.int .i64 (n : Int)] μ = some (.ret (.cv (readCV (nextR s n s[n]))) μ) := by
 have e46 : ∀ c : UInt8, decide ((c.toNat : Int) = 46) = decide (c = 46) := fun c => u8_eq (k := 46) (by omega)
 refine ev_call ?_
 rw [nf58, strAt_lt hn, opt_s, law96]
 simp only [callK_ret, getTup_t, opt_s, uncons_c, getInt_i, getStr_s, getBool_b, isNilL_n, gB_t, cond_true, cond_false, Bool.not_true, Bool.not_false, getSl_s, getSl_o, getOsl_o]
 unfold nextR
 cases hlet : isLet s[n] with
 | true =>
  have htw : ((s.drop n).takeWhile isPar).length ≤ s.length - n := by
   have := (List.takeWhile_sublist isPar (l := s.drop n)).length_le
   rw [List.length_drop] at this
   exact this
  rw [cond_true, loop58 hs (s.length - n) n (by omega), opt_s, nfXL58_4_0, wsub (by omega) (by omega)]
  have e1 : n + ((s.drop n).takeWhile isPar).length - n = ((s.drop n).takeWhile isPar).length := by omega
  rw [e1, if_pos rfl]
  by_cases h31 : 31 < ((s.drop n).takeWhile isPar).length
  ·have : decide ((31 : Int) < (((s.drop n).takeWhile isPar).length : Int)) = true := by simp; omega
   rw [this, cond_true, if_pos h31]
   rfl
  ·have : decide ((31 : Int) < (((s.drop n).takeWhile isPar).length : Int)) = false := by simp; omega
   have hcut : (s.drop n).take ((s.drop n).takeWhile isPar).length = (s.drop n).takeWhile isPar := (List.prefix_iff_eq_take.1 (List.takeWhile_prefix _)).symm
   have hG : ∀ {a b c d : Int} {t : List UInt8}, G58_8 (ev E) s (n : Int) ((n + ((s.drop n).takeWhile isPar).length : Nat) : Int) a b t c d μ = some (XG58_8_0 0 0 (((s.drop n).takeWhile isPar).map upB) ((n + ((s.drop n).takeWhile isPar).length : Nat) : Int) 0 μ) := by
    intro a b c d t
    refine ev_seg ?_
    rw [nfG58_8, cutA_ok (by omega) (by omega), opt_s, e1, hcut, law97 (by omega)]
    simp only [callK_ret, getTup_t, opt_s, uncons_c, getInt_i, getStr_s, getBool_b, isNilL_n, gB_t, cond_true, cond_false, Bool.not_true, Bool.not_false, getSl_s, getSl_o, getOsl_o]
   rw [this, cond_false, if_neg h31, hG, opt_s, nfXG58_8_0]
   rfl
 | false =>
  rw [cond_false, law67]
  simp only [callK_ret, getTup_t, opt_s, uncons_c, getInt_i, getStr_s, getBool_b, isNilL_n, gB_t, cond_true, cond_false, Bool.not_true, Bool.not_false, getSl_s, getSl_o, getOsl_o, Bool.false_eq_true, if_false, e46]
  have hfin : ∀ {x : Bool} {a b c d : Int} {t : List UInt8}, (isDig s[n] || (decide (s[n] = 46) && isDig ((s[n + 1]?).getD 0))) = x → (opt (G58_11 (ev E) s (n : Int) (s[n].toNat : Int) x a b t c d μ) fun st => runK E.P (ev E) H58 [.block 0, .seq (codeAt E.P 58 [1, 1, 1])] st (bodyEnd E.P (resOf E.P 58))) =
    some (.ret (.cv (readCV (if (isDig s[n] || (decide (s[n] = 46) && isDig ((s[n + 1]?).getD 0))) = true then numberR s n else if s[n] = 46 then wordE s n else if s[n] = 39 ∨ s[n] = 34 then quoted s n else bestR s n))) μ) := by
   intro x a b c d t hx
   have f0 : ∀ q : Except Int (Tok × Nat), runK E.P (ev E) H58 [.block 0, .seq (codeAt E.P 58 [1, 1, 1])] (stN μ XG58_11_0 q) (bodyEnd E.P (resOf E.P 58)) = some (.ret (.cv (readCV q)) μ) := by
    intro q
    cases q with
    | ok q => exact nfXG58_11_0 _ _ _ _ _ _ _
    | error e => exact nfXG58_11_0 _ _ _ _ _ _ _
   rw [seg58_11 hs hn, opt_s, hx]
   cases x with
   | true => rw [if_pos rfl, if_pos rfl, f0]
   | false =>
    simp only [Bool.false_eq_true, if_false]
    by_cases h46 : s[n] = 46
    ·rw [if_pos h46, if_pos h46, f0]
    ·rw [if_neg h46, if_neg h46]
     by_cases hq : s[n] = 39 ∨ s[n] = 34
     ·rw [if_pos hq, if_pos hq, f0]
     ·rw [if_neg hq, if_neg hq, nfXG58_11_2, seg58_28 hs (by omega), opt_s]
      cases bestR s n with
      | ok q => exact nfXG58_28_1 _ _ _ _ _ _ _
      | error e => exact nfXG58_28_1 _ _ _ _ _ _ _
  cases hdig : isDig s[n] with
  | true =>
   rw [cond_true]
   have := hfin (x := true) (a := 0) (b := 0) (c := 0) (d := 0) (t := []) (by rw [hdig]; rfl)
   rw [hdig] at this
   exact this
  | false =>
   rw [cond_false]
   by_cases h46 : s[n] = 46
   ·have h1 : decide (s[n] = 46) = true := by simp [h46]
    rw [h1, cond_true, wsucc (by omega)]
    by_cases h2 : n + 1 < s.length
    ·rw [lt_t h2, cond_true, strAt_lt h2, opt_s, law67]
     simp only [callK_ret, getTup_t, opt_s, uncons_c, getInt_i, getStr_s, getBool_b, isNilL_n, gB_t, cond_true, cond_false, Bool.not_true, Bool.not_false, getSl_s, getSl_o, getOsl_o]
     have hg : (s[n + 1]?).getD 0 = s[n + 1] := by rw [List.getElem?_eq_getElem h2]; rfl
     have := hfin (x := isDig s[n + 1]) (a := 0) (b := 0) (c := 0) (d := 0) (t := []) (by rw [hdig, h1, hg]; rfl)
     rw [hdig, h1] at this
     exact this
    ·have hg : isDig ((s[n + 1]?).getD 0) = false := by rw [List.getElem?_eq_none (by omega)]; rfl
     rw [lt_f (by omega), cond_false]
     have := hfin (x := false) (a := 0) (b := 0) (c := 0) (d := 0) (t := []) (by rw [hdig, h1, hg]; rfl)
     rw [hdig, h1] at this
     exact this
   ·have h1 : decide (s[n] = 46) = false := by simp [h46]
    rw [h1, cond_false]
    have := hfin (x := false) (a := 0) (b := 0) (c := 0) (d := 0) (t := []) (by rw [hdig, h1]; rfl)
    rw [hdig, h1] at this
    exact this
end
end Go.Abs

set_option linter.unusedVariables false
set_option linter.unusedSimpArgs false
set_option maxRecDepth 100000
namespace Go.Abs
open Go Go.Proofs
def dropK : Except Int (Tok × Nat × List Nat) → Except Int (Tok × Nat)
 | .ok q => .ok (q.1, q.2.1)
 | .error e => .error e
section
variable {s : List UInt8} {n : Nat}
theorem dropK_no (q : Except Int (Tok × Nat)) : dropK (noK q) = q := by cases q <;> rfl
theorem dropK_quoted : dropK (quotedK s n) = quoted s n := by
 unfold quotedK
 cases quoted s n <;> rfl
theorem words_apart : ∀ w ∈ wordsS, w ≠ trueS ∧ w ≠ falseS := by decide
theorem begins_uniq {w : List UInt8} (hw : w ∈ wordsR) (hb : beginsR s n w = true) : w = dotText false s n := ((begins_dotted (wordsR_word w hw) hb).2.1).symm
theorem find_some {l : List (List UInt8)} {p : List UInt8 → Bool} {w : List UInt8} (hm : w ∈ l) (hp : p w = true) (hu : ∀ x ∈ l, p x = true → x = w) : l.find? p = some w := by
 cases hf : l.find? p with
 | none =>
  rw [List.find?_eq_none] at hf
  exact absurd hp (hf w hm)
 | some x =>
  have h1 := List.find?_some hf
  have h2 := List.mem_of_find?_eq_some hf
  rw [hu x h2 h1]
theorem find_none {l : List (List UInt8)} {p : List UInt8 → Bool} (h : ∀ x ∈ l, p x = false) : l.find? p = none := by
 rw [List.find?_eq_none]
 intro x hx
 rw [h x hx]
 simp
theorem mem_words {w : List UInt8} (h : w ∈ wordsS) : w ∈ wordsR := by rw [words_split]; exact List.mem_append_left _ h
theorem mem_logic {w : List UInt8} (h : w ∈ ([trueS, falseS] : List (List UInt8))) : w ∈ wordsR := by rw [words_split]; exact List.mem_append_right _ h
theorem word_eq (h : atC false s n = 46) : wordE s n = if (dotted false s n).2.2 then .ok (wordTok (dotted false s n).1, (dotted false s n).2.1) else .error 7 := by
 have e : dotted false s n = (dotText false s n, dotEnd false s n, dotOK false s n) := by unfold dotted; rw [if_pos h]
 have hany := any_eq h
 rw [e] at hany ⊢
 simp only at hany ⊢
 unfold wordE findR
 cases hok : dotOK false s n with
 | false =>
  rw [hok] at hany
  have hno : ∀ w ∈ wordsR, beginsR s n w = false := by
   intro w hw
   cases hb : beginsR s n w with
   | false => rfl
   | true =>
    have : wordsR.any (beginsR s n) = true := List.any_eq_true.2 ⟨w, hw, hb⟩
    rw [hany] at this; cases this
  rw [find_none (fun x hx => hno x (mem_words hx)), find_none (fun x hx => hno x (mem_logic hx))]
  rfl
 | true =>
  rw [hok] at hany
  rw [List.any_eq_true] at hany
  obtain ⟨w, hw, hb⟩ := hany
  have hT := begins_uniq hw hb
  have hE := (begins_dotted (wordsR_word w hw) hb).2.2.2
  rw [← hT, hE]
  rw [words_split, List.mem_append] at hw
  simp only [if_true]
  rcases hw with hw | hw
  ·rw [find_some hw hb (fun x hx hp => by rw [begins_uniq (mem_words hx) hp, ← hT])]
   have := words_apart w hw
   unfold wordTok
   rw [if_neg (by intro hh; rcases hh with hh | hh; exact this.1 hh; exact this.2 hh)]
  ·rw [find_none (fun x hx => ?_), find_some hw hb (fun x hx hp => by rw [begins_uniq (mem_logic hx) hp, ← hT])]
   ·unfold wordTok
    rw [if_pos (by simpa using hw)]
   ·cases hbx : beginsR s n x with
    | false => rfl
    | true =>
     have h1 := begins_uniq (mem_words hx) hbx
     rw [← hT] at h1
     have := words_apart x hx
     rw [h1] at this
     simp only [List.mem_cons, List.not_mem_nil, or_false] at hw
     rcases hw with hw | hw
     ·exact absurd hw this.1
     ·exact absurd hw this.2
theorem isPar_ascii {c : UInt8} (h : isPar c = true) : c.toNat < 128 := by
 unfold isPar at h
 simp only [Bool.or_eq_true, decide_eq_true_eq] at h
 rcases h with (h | h) | h
 ·exact isLet_ascii h
 ·have := isDig_iff.1 h; omega
 ·omega
theorem up_par : up (runC false isPar s n) = ((s.drop n).takeWhile isPar).map upB := by
 rw [runC_free isPar0]
 exact up_ascii _ fun b hb => isPar_ascii (takeWhile_all _ b hb)
def beg (c : UInt8) (d : Option UInt8) : List UInt8 → Bool
 | [x] => decide (c = x)
 | [x, y] => decide (c = x) && decide (d = some y)
 | _ => false
theorem upB_same_fin : ∀ i : Fin 256, isLet (UInt8.ofNat i.val) = false → upB (UInt8.ofNat i.val) = UInt8.ofNat i.val := by decide
theorem upB_same {c : UInt8} (h : isLet c = false) : upB c = c := by
 have := upB_same_fin ⟨c.toNat, c.toNat_lt⟩
 simpa [h] using this
theorem upB_sign_fin : ∀ i : Fin 256, ∀ y ∈ ([61, 42, 47, 62] : List UInt8), (upB (UInt8.ofNat i.val) = y ↔ UInt8.ofNat i.val = y) := by decide
theorem upB_sign {c y : UInt8} (hy : y ∈ ([61, 42, 47, 62] : List UInt8)) : upB c = y ↔ c = y := by
 have := upB_sign_fin ⟨c.toNat, c.toNat_lt⟩ y hy
 simpa using this
theorem beg_one {c x : UInt8} (h : s[n]? = some c) (hl : isLet c = false) : beginsR s n [x] = beg c s[n + 1]? [x] := by
 have hn := lt_of_get h
 rw [List.getElem?_eq_getElem hn] at h
 injection h with h
 unfold beginsR beg
 rw [List.drop_eq_getElem_cons hn, h]
 simp only [List.length_singleton, List.take_succ_cons, List.take_zero, List.map_cons, List.map_nil, upB_same hl]
 have : decide (n + 1 ≤ s.length) = true := by simp; omega
 rw [this, Bool.true_and]
 simp
theorem beg_two {c x y : UInt8} (h : s[n]? = some c) (hl : isLet c = false) (hy : y ∈ ([61, 42, 47, 62] : List UInt8)) : beginsR s n [x, y] = beg c s[n + 1]? [x, y] := by
 have hn := lt_of_get h
 rw [List.getElem?_eq_getElem hn] at h
 injection h with h
 unfold beginsR beg
 simp only [List.length_cons, List.length_nil]
 by_cases h2 : n + 1 < s.length
 ·have : decide (n + (0 + 1 + 1) ≤ s.length) = true := by simp; omega
  rw [this, Bool.true_and, List.drop_eq_getElem_cons hn, List.drop_eq_getElem_cons h2, List.getElem?_eq_getElem h2, h]
  simp only [List.take_succ_cons, List.take_zero, List.map_cons, List.map_nil, upB_same hl]
  have := upB_sign (c := s[n + 1]) hy
  by_cases h3 : s[n + 1] = y
  ·rw [this.2 h3, h3]; simp
  ·have h4 : upB s[n + 1] ≠ y := fun hh => h3 (this.1 hh)
   simp [h3, h4]
 ·have : decide (n + (0 + 1 + 1) ≤ s.length) = false := by simp; omega
  rw [this, List.getElem?_eq_none (by omega)]
  simp
def allOps : List (List UInt8 × List UInt8) := syms ++ selfs signsS
theorem foldB_app (l m : List (List UInt8 × List UInt8)) : ∀ r, foldB s n (l ++ m) r = foldB s n m (foldB s n l r) := by
 induction l with
 | nil => intro r; rfl
 | cons x l ih => intro r; rw [List.cons_append, foldB, foldB, ih]
def foldC (c : UInt8) (d : Option UInt8) (n : Nat) : List (List UInt8 × List UInt8) → Except Int (Tok × Nat) → Except Int (Tok × Nat)
 | [], r => r
 | x :: l, r => foldC c d n l (if beg c d x.1 = true ∧ toE r < n + x.1.length then .ok (⟨2, 0, x.2⟩, n + x.1.length) else r)
def opShape (x : List UInt8) : Bool := match x with | [_] => true | [_, y] => ([61, 42, 47, 62] : List UInt8).contains y | _ => false
theorem foldC_eq {c : UInt8} (h : s[n]? = some c) (hl : isLet c = false) : ∀ (l : List (List UInt8 × List UInt8)) (r : Except Int (Tok × Nat)), (∀ x ∈ l, opShape x.1 = true) → foldB s n l r = foldC c s[n + 1]? n l r
 | [], r, _ => rfl
 | x :: l, r, hs => by
  have hx := hs x List.mem_cons_self
  have hb : beginsR s n x.1 = beg c s[n + 1]? x.1 := by
   obtain ⟨x1, x2⟩ := x
   simp only at hx ⊢
   match x1, hx with
   | [a], _ => exact beg_one h hl
   | [a, y], hy => exact beg_two h hl (List.contains_iff_mem.1 hy)
  rw [foldB, foldC, hb, foldC_eq h hl l _ (fun y hy => hs y (List.mem_cons_of_mem _ hy))]
theorem allOps_shape : ∀ x ∈ allOps, opShape x.1 = true := by decide
def opC (c : UInt8) (d : Option UInt8) (n : Nat) : Except Int (Tok × Nat) :=
 match spell [c, d.getD 0] with
 | some w => .ok (⟨2, 0, w⟩, n + 2)
 | none => if d.getD 0 ≠ 0 ∧ signsS.contains [c, d.getD 0] then .ok (⟨2, 0, [c, d.getD 0]⟩, n + 2)
  else match spell [c] with
   | some w => .ok (⟨2, 0, w⟩, n + 1)
   | none => if signsS.contains [c] then .ok (⟨2, 0, [c]⟩, n + 1) else .error 7
theorem spell_two {a b : UInt8} {w : List UInt8} (h : spell [a, b] = some w) : b = 61 := by
 unfold spell at h
 simp only [List.cons.injEq, and_true] at h
 split at h
 ·rename_i h1; exact h1.2
 ·split at h
  ·rename_i h1; exact h1.2
  ·split at h
   ·rename_i h1; exact h1.2
   ·split at h
    ·rename_i h1; exact h1.2
    ·simp at h
theorem opC_eq {c : UInt8} (h : s[n]? = some c) (hc : c ≠ 32) : opTok false s n = opC c s[n + 1]? n := by
 obtain ⟨ha, hb⟩ := atC_at (fx := false) h hc
 unfold opTok opC
 simp only [ha, hb, atC_free, atE_free]
 by_cases h2 : n + 1 < s.length
 ·rw [if_pos h2]
  cases spell [c, (s[n + 1]?).getD 0] with
  | some w => rfl
  | none => rfl
 ·rw [if_neg h2, List.getElem?_eq_none (by omega)]
  cases hsp : spell [c, (none : Option UInt8).getD 0] with
  | some w => exact absurd (spell_two hsp) (by decide)
  | none =>
   simp only [Option.getD_none, ne_eq, not_true_eq_false, false_and, if_false]
   cases spell [c] with
   | some w => rfl
   | none => rfl
theorem fold_op (c : UInt8) (d : Option UInt8) (n : Nat) : foldC c d n allOps (.error 7) = opC c d n := by
 have hd : d = none ∨ d = some 61 ∨ d = some 42 ∨ d = some 47 ∨ d = some 62 ∨ ∃ x, d = some x ∧ x ≠ 61 ∧ x ≠ 42 ∧ x ≠ 47 ∧ x ≠ 62 := by
  cases d with
  | none => exact Or.inl rfl
  | some x =>
   by_cases h1 : x = 61
   ·exact Or.inr (Or.inl (by rw [h1]))
   ·by_cases h2 : x = 42
    ·exact Or.inr (Or.inr (Or.inl (by rw [h2])))
    ·by_cases h3 : x = 47
     ·exact Or.inr (Or.inr (Or.inr (Or.inl (by rw [h3]))))
     ·by_cases h4 : x = 62
      ·exact Or.inr (Or.inr (Or.inr (Or.inr (Or.inl (by rw [h4])))))
      ·exact Or.inr (Or.inr (Or.inr (Or.inr (Or.inr ⟨x, rfl, h1, h2, h3, h4⟩))))
 have hL : ∀ (x : UInt8), x ∈ ([60, 62, 61, 47, 42, 43, 45, 40, 41, 44, 58, 37] : List UInt8) ∨ x ∉ ([60, 62, 61, 47, 42, 43, 45, 40, 41, 44, 58, 37] : List UInt8) := fun x => Classical.em _
 rcases hL c with hm | hm
 ·simp only [List.mem_cons, List.not_mem_nil, or_false] at hm
  rcases hm with rfl | rfl | rfl | rfl | rfl | rfl | rfl | rfl | rfl | rfl | rfl | rfl <;> rcases hd with rfl | rfl | rfl | rfl | rfl | ⟨x, rfl, h1, h2, h3, h4⟩ <;>
   simp [foldC, allOps, syms, selfs, signsS, beg, toE, opC, spell, *]
 ·simp only [List.mem_cons, List.not_mem_nil, or_false, not_or] at hm
  obtain ⟨n1, n2, n3, n4, n5, n6, n7, n8, n9, n10, n11, n12⟩ := hm
  simp [foldC, allOps, syms, selfs, signsS, beg, toE, opC, spell, n1, n2, n3, n4, n5, n6, n7, n8, n9, n10, n11, n12]
theorem best_eq {c : UInt8} (h : s[n]? = some c) (hc : c ≠ 32) (hl : isLet c = false) : bestR s n = opTok false s n := by
 have e : bestR s n = foldB s n allOps (.error 7) := (foldB_app syms (selfs signsS) _).symm
 rw [e, foldC_eq h hl _ _ allOps_shape, fold_op, opC_eq h hc]
theorem next_eq {c : UInt8} (h : s[n]? = some c) (hc : c ≠ 32) : nextR s n c = dropK (tokenN false s n c) := by
 obtain ⟨ha, hb⟩ := atC_at (fx := false) h hc
 unfold nextR tokenN
 by_cases hl : isLet c = true
 ·rw [if_pos hl, if_pos hl, up_par, runC_free isPar0, runE_free isPar0]
  split <;> rfl
 ·rw [if_neg hl, if_neg hl]
  have hl' : isLet c = false := by simpa using hl
  have e2 : atC false s (n + 1) = (s[n + 1]?).getD 0 := rfl
  rw [e2]
  by_cases hd : (isDig c || (decide (c = 46) && isDig ((s[n + 1]?).getD 0))) = true
  ·rw [if_pos hd, if_pos hd, dropK_no]
   refine numberR_eq h ?_
   rw [Bool.or_eq_true, Bool.and_eq_true, decide_eq_true_eq] at hd
   exact hd
  ·rw [if_neg hd, if_neg hd]
   by_cases h46 : c = 46
   ·rw [if_pos h46, if_pos h46, word_eq (by rw [ha, h46])]
    split <;> rfl
   ·rw [if_neg h46, if_neg h46]
    by_cases hq : c = 39 ∨ c = 34
    ·rw [if_pos hq, if_pos hq, dropK_quoted]
    ·rw [if_neg hq, if_neg hq, dropK_no, best_eq h hc hl']
def errOK {α : Type} : Except Int α → Prop
 | .ok _ => True
 | .error e => e = 4 ∨ e = 7 ∨ e = 8 ∨ e = 28
theorem errOK_no {q : Except Int (Tok × Nat)} (h : errOK q) : errOK (noK q) := by cases q <;> exact h
theorem quoted_err : errOK (quoted s n) := by
 unfold quoted
 split
 ·exact Or.inr (Or.inl rfl)
 ·split
  ·exact Or.inr (Or.inr (Or.inl rfl))
  ·trivial
theorem real_err {whole part digits : List UInt8} {letter : UInt8} {ok : Bool} {e : Nat} : errOK (real whole part digits letter ok e) := by
 unfold real
 split
 ·exact Or.inr (Or.inl rfl)
 ·trivial
theorem number_err {fx : Bool} : errOK (number fx s n) := by
 unfold number
 simp only
 split
 ·unfold integer
  split
  ·exact trivial
  ·rename_i e he
   split at he
   ·injection he with he
    subst he
    exact Or.inr (Or.inr (Or.inr rfl))
   ·cases he
 ·exact real_err
theorem op_err {fx : Bool} : errOK (opTok fx s n) := by
 unfold opTok
 simp only
 split
 ·trivial
 ·split
  ·trivial
  ·split
   ·trivial
   ·split
    ·trivial
    ·exact Or.inr (Or.inl rfl)
theorem token_err {fx : Bool} {out : List Tok} : errOK (tokenK fx s out n) := by
 unfold tokenK
 split
 ·unfold holK
  split
  ·exact Or.inr (Or.inl rfl)
  ·trivial
 ·unfold tokenN
  split
  ·split
   ·exact Or.inl rfl
   ·trivial
  ·split
   ·exact errOK_no number_err
   ·split
    ·split
     ·trivial
     ·exact Or.inr (Or.inl rfl)
    ·split
     ·have := quoted_err (s := s) (n := n)
      unfold quotedK
      cases hq : quoted s n with
      | ok q => trivial
      | error e => rw [hq] at this; exact this
     ·exact errOK_no op_err
end
end Go.Abs

set_option linter.unusedVariables false
set_option maxRecDepth 100000
namespace Go.Abs
open Go Go.Proofs
theorem lim_evn (E : Env) : ∀ n, LimR (evn E) (evn E n)
 | 0 => ⟨fun f args μ r h => (by simp [evn] at h), fun H lv c s μ r h => (by simp [evn] at h), fun H lv c s μ r h => (by simp [evn] at h), fun f pv args μ r h => (by simp [evn] at h)⟩
 | n + 1 => by
  have ih := lim_evn E n
  refine ⟨fun f args μ r h => ?_, fun H lv c s μ r h => ?_, fun H lv c s μ r h => ?_, fun f pv args μ r h => ?_⟩
  ·obtain ⟨N, hN⟩ := lim_callStep ih (E := E) (f := f) (args := args) (μ := μ) r h
   refine ⟨N + 1, fun m hm => ?_⟩
   obtain ⟨q, rfl⟩ : ∃ q, m = q + 1 := ⟨m - 1, by omega⟩
   exact hN q (by omega)
  ·obtain ⟨N, hN⟩ := lim_roundK ih (P := E.P) (H := H) (lv := lv) (c := c) (s := s) (μ := μ) r h
   refine ⟨N + 1, fun m hm => ?_⟩
   obtain ⟨q, rfl⟩ : ∃ q, m = q + 1 := ⟨m - 1, by omega⟩
   exact hN q (by omega)
  ·obtain ⟨N, hN⟩ := lim_segK ih (P := E.P) (H := H) (lv := lv) (c := c) (s := s) (μ := μ) r h
   refine ⟨N + 1, fun m hm => ?_⟩
   obtain ⟨q, rfl⟩ : ∃ q, m = q + 1 := ⟨m - 1, by omega⟩
   exact hN q (by omega)
  ·obtain ⟨N, hN⟩ := lim_dcallStep ih (E := E) (f := f) (pv := pv) (args := args) (μ := μ) r h
   refine ⟨N + 1, fun m hm => ?_⟩
   obtain ⟨q, rfl⟩ : ∃ q, m = q + 1 := ⟨m - 1, by omega⟩
   exact hN q (by omega)
theorem ev_run {E : Env} {n : Nat} {f : FuncId} {args : List LV} {μ : Mu} {out : Out} (h : (evn E n).call f args μ = some out) : (ev E).call f args μ = some out :=
 limOf_eq ((lim_evn E n).call f args μ out h)
theorem awake_run : (evn E 150).call 11 [] [] = some (.ret (LV.bool true) []) := by kernel_rfl
theorem law11 : (ev E).call 11 [] [] = some (.ret (LV.bool true) []) := ev_run awake_run
end Go.Abs

set_option linter.unusedVariables false
set_option linter.unusedSimpArgs false
set_option maxRecDepth 100000
namespace Go.Abs
open Go Go.Proofs
section
variable {μ : Mu} {s : List UInt8}
theorem token_free {out : List Tok} {n : Nat} : tokenK false s out n = tokenN false s n ((s[n]?).getD 0) := by
 unfold tokenK mayH
 rfl
noncomputable def end18 (μ : Mu) : Option (Nat × Int) × List Tok × List Nat → St
 | (none, out, _) => XL18_6_2 (toksCV out) μ
 | (some (n, e), _, _) => XL18_6_0 [] (n : Int) e μ
theorem skip18 (hs : s.length ≤ 200000) {out : List Tok} {st : St} : ∀ (k n : Nat), blanks (s.drop n) = k → n ≤ s.length → L18_6 (ev E) s (toksCV out) ((n + k : Nat) : Int) μ = some st → L18_6 (ev E) s (toksCV out) (n : Int) μ = some st := by
 have e32 : ∀ c : UInt8, decide ((c.toNat : Int) = 32) = decide (c = 32) := fun c => u8_eq (k := 32) (by omega)
 intro k
 induction k with
 | zero => intro n hb hn h; exact h
 | succ k ih =>
  intro n hb hn h
  have hlt : n < s.length := by
   rcases Nat.lt_or_ge n s.length with h1 | h1
   ·exact h1
   ·rw [List.drop_eq_nil_of_le h1] at hb; simp [blanks] at hb
  rw [List.drop_eq_getElem_cons hlt, blanks] at hb
  by_cases hc : s[n] = 32
  ·rw [if_pos hc] at hb
   refine ev_loop ?_
   have : decide (s[n] = 32) = true := by simp [hc]
   rw [nfL18_6, lt_t hlt, cond_true, strAt_lt hlt, opt_s, e32, this, cond_true, wsucc (by omega)]
   refine ih (n + 1) (by omega) hlt ?_
   have : n + 1 + k = n + (k + 1) := by omega
   rw [this]
   exact h
  ·rw [if_neg hc] at hb; cases hb
theorem loop18 (hs : s.length ≤ 200000) : ∀ (k n : Nat) (out : List Tok) (kept : List Nat), s.length < n + k → n ≤ s.length → out.length ≤ n →
  L18_6 (ev E) s (toksCV out) (n : Int) μ = some (end18 μ (splitL false s k n out kept)) := by
 have e32 : ∀ c : UInt8, decide ((c.toNat : Int) = 32) = decide (c = 32) := fun c => u8_eq (k := 32) (by omega)
 intro k
 induction k with
 | zero => intro n out kept hk hn ho; omega
 | succ k ih =>
  intro n out kept hk hn ho
  have hb := blanks_le (s.drop n)
  rw [List.length_drop] at hb
  refine skip18 hs _ n rfl hn ?_
  unfold splitL
  by_cases hm : s.length ≤ n + blanks (s.drop n)
  ·rw [if_pos hm]
   refine ev_loop ?_
   rw [nfL18_6, lt_f hm, cond_false]
   rfl
  ·rw [if_neg hm]
   have hlt : n + blanks (s.drop n) < s.length := by omega
   obtain ⟨c, hc1, hc2⟩ := blanks_get hlt
   obtain ⟨m, hmd⟩ : ∃ m, m = n + blanks (s.drop n) := ⟨_, rfl⟩
   rw [← hmd] at hlt hc1 ⊢
   have hg : s[m] = c := by rw [List.getElem?_eq_getElem hlt] at hc1; simpa using hc1
   have hf := token_fits (fx := false) (out := out) hc1 hc2
   have he := token_err (s := s) (n := m) (fx := false) (out := out)
   have hT : tokenK false s out m = tokenN false s m c := by rw [token_free, hc1]; rfl
   have hN := next_eq hc1 hc2
   rw [← hT] at hN
   refine ev_loop ?_
   have h32 : decide (c = 32) = false := by simp [hc2]
   rw [nfL18_6, lt_t hlt, cond_true, strAt_lt hlt, opt_s, e32, hg, h32, cond_false]
   cases ht : tokenK false s out m with
   | error e =>
    rw [ht] at he hN
    have hG : G18_9 (ev E) s (toksCV out) (m : Int) μ = some (XG18_9_0 [] (m : Int) e μ) := by
     refine ev_seg ?_
     rw [nfG18_9, law58 hs hlt, hg, hN, callK_ret, rd88_read]
     simp only [dropK, stB]
     have : decide (e = 0) = false := by
      simp only [decide_eq_false_iff_not]
      rcases he with h | h | h | h <;> rw [h] <;> decide
     rw [this]
     rfl
    rw [hG, opt_s, nfXG18_9_0]
    rfl
   | ok q =>
    rw [ht] at hf hN
    obtain ⟨f1, f2, f3⟩ := hf
    have ha : [CV.agg [CV.int .i64 q.1.kind, CV.int .i64 q.1.type, CV.str q.1.text]] = toksCV [q.1] := rfl
    have happ : toksCV out ++ toksCV [q.1] = toksCV (out ++ [q.1]) := by simp [toksCV]
    have hG : G18_9 (ev E) s (toksCV out) (m : Int) μ = some (XG18_9_1 s (toksCV (out ++ [q.1])) (q.2.1 : Int) μ) := by
     refine ev_seg ?_
     have hG12 : G18_12 (ev E) s (toksCV out) q.1.kind q.1.type q.1.text (q.2.1 : Int) 0 μ = some (XG18_12_0 s (toksCV (out ++ [q.1])) (q.2.1 : Int) μ) := by
      refine ev_seg ?_
      rw [nfG18_12, ha, appOK_toks (by simp; omega), gB_t, happ]
     rw [nfG18_9, law58 hs hlt, hg, hN, callK_ret, rd88_read]
     simp only [dropK, stB]
     rw [decide_true, Bool.not_true, cond_false, hG12, opt_s, nfXG18_12_0]
    rw [hG, opt_s, nfXG18_9_1]
    exact ih q.2.1 _ _ (by omega) f2 (by simp; omega)
theorem split_err {fx : Bool} : ∀ (k n : Nat) (out : List Tok) (kept : List Nat) (m : Nat) (e : Int), (splitL fx s k n out kept).1 = some (m, e) → e ≠ 0
 | 0, n, out, kept, m, e, h => by simp [splitL] at h
 | k + 1, n, out, kept, m, e, h => by
  unfold splitL at h
  split at h
  ·cases h
  ·have he := token_err (s := s) (n := n + blanks (s.drop n)) (fx := fx) (out := out)
   cases ht : tokenK fx s out (n + blanks (s.drop n)) with
   | error x =>
    rw [ht] at h he
    simp only [Option.some.injEq, Prod.mk.injEq] at h
    obtain ⟨_, rfl⟩ := h
    rcases he with h | h | h | h <;> rw [h] <;> decide
   | ok q =>
    rw [ht] at h
    exact split_err k _ _ _ m e h
theorem law18 (hs : s.length ≤ 200000) : (ev E).call 18 [LV.str s] μ = some (.ret (.ltup [if textErr s = 0 then LV.cv (CV.sl (toksCV (scanT false s))) else nilL, LV.int .i64 ((scan false s).n : Int), LV.int .i64 (scan false s).e]) μ) := by
 refine ev_call ?_
 rw [nf18, law48 hs]
 simp only [callK_ret, getTup_t, opt_s, uncons_c, getInt_i, getStr_s, getBool_b, isNilL_n, gB_t, cond_true, cond_false, Bool.not_true, Bool.not_false, getSl_s, getSl_o, getOsl_o]
 by_cases ht : textErr s = 0
 ·have h1 : decide (textErr s = 0) = true := by simp [ht]
  rw [h1, Bool.not_true, cond_false, if_pos ht]
  have hl := loop18 (μ := μ) hs (s.length + 1) 0 [] [] (by omega) (by omega) (by simp)
  have e0 : ((0 : Nat) : Int) = 0 := rfl
  have et : toksCV [] = [] := rfl
  rw [e0, et] at hl
  have hne := split_err (s := s) (fx := false) (s.length + 1) 0 [] []
  obtain ⟨r, hr⟩ : ∃ r, splitL false s (s.length + 1) 0 [] [] = r := ⟨_, rfl⟩
  rw [hr] at hl hne
  have hsc : scan false s = if (splitN r.1).2 = 0 then (if 300 < r.2.1.length then ⟨r.2.1, r.2.2, 0, 8⟩ else ⟨r.2.1, r.2.2, r.2.1.length, 0⟩) else ⟨r.2.1, r.2.2, (splitN r.1).1, (splitN r.1).2⟩ := by
   unfold scan; rw [if_pos ht, hr]
  have hG : G18_4 (ev E) s μ = some (XG18_4_0 (toksCV (scanT false s)) ((scan false s).n : Int) (scan false s).e μ) := by
   refine ev_seg ?_
   rw [nfG18_4, hl, opt_s]
   unfold scanT
   rw [hsc]
   obtain ⟨x, o, q⟩ := r
   have hlen : (toksCV o).length = o.length := by simp [toksCV]
   cases x with
   | none =>
    have hz : (splitN (none : Option (Nat × Int))).2 = 0 := rfl
    rw [if_pos hz]
    simp only [end18]
    rw [nfXL18_6_2, hlen]
    by_cases h3 : 300 < o.length
    ·have : decide ((300 : Int) < (o.length : Int)) = true := by simp; omega
     rw [this, cond_true, if_pos h3]
     rfl
    ·have : decide ((300 : Int) < (o.length : Int)) = false := by simp; omega
     rw [this, cond_false, if_neg h3]
     rfl
   | some w =>
    obtain ⟨m, e⟩ := w
    have he := hne m e rfl
    have hz : ¬ (splitN (some (m, e))).2 = 0 := he
    rw [if_neg hz]
    simp only [end18]
    rw [nfXL18_6_0]
    have hz2 : (if (splitN (some (m, e))).2 = 0 then o else []) = [] := if_neg hz
    simp only [hz2]
    rfl
  rw [hG, opt_s, nfXG18_4_0]
 ·have h1 : decide (textErr s = 0) = false := by simp [ht]
  have hsc : scan false s = ⟨[], [], 0, textErr s⟩ := by unfold scan; rw [if_neg ht]
  rw [h1, Bool.not_false, cond_true, if_neg ht, hsc]
  rfl
theorem brief_len (h : brief s = true) : s.length ≤ 1340 := by
 unfold brief at h
 simp only [Bool.or_eq_true, Bool.and_eq_true, decide_eq_true_eq] at h
 omega
end
end Go.Abs

set_option linter.unusedVariables false
set_option linter.unusedSimpArgs false
set_option maxRecDepth 100000
namespace Go.Abs
open Go Go.Proofs
section
variable {μ : Mu} {s : List UInt8}
def headIs (p : UInt8 → Bool) (s : List UInt8) : Bool := match s with | [] => false | c :: _ => p c
theorem all_not {p : UInt8 → Bool} : ∀ (l : List UInt8), (!l.any fun b => !p b) = l.all p
 | [] => rfl
 | c :: r => by rw [List.any_cons, List.all_cons, Bool.not_or, all_not r, Bool.not_not]
def notDig (b : UInt8) : Bool := decide (b.toNat < 48) || decide (57 < b.toNat)
theorem notDig_eq : notDig = fun b => !isDig b := by
 funext b
 unfold notDig isDig
 rw [Bool.not_and]
 congr 1
 ·by_cases h : 48 ≤ b.toNat
  ·rw [decide_eq_true h, decide_eq_false (by omega)]; rfl
  ·rw [decide_eq_false h, decide_eq_true (by omega)]; rfl
 ·by_cases h : b.toNat ≤ 57
  ·rw [decide_eq_true h, decide_eq_false (by omega)]; rfl
  ·rw [decide_eq_false h, decide_eq_true (by omega)]; rfl
def intForm (t : List UInt8) : Bool := decide (t.length ≤ 10) && t.all isDig && headIs (fun c => !decide (c = 48) || decide (t = [48])) t
def checkC (k : Int) (t : List UInt8) : Int :=
 if k = 0 then (if intForm t then (if 2147483647 < valD 0 t then 28 else 0) else 3)
 else if k = 1 ∨ k = 2 ∨ k = 5 ∨ k = 6 then (if single t = some ⟨1, k, t⟩ then 0 else 3) else 15
theorem seg12_13 {k : Int} (hs : s.length ≤ 200000) {b : Bool} (hb : b = decide (k = 1 ∨ k = 2 ∨ k = 5 ∨ k = 6)) (hk : k ≠ 0) :
  (opt (G12_13 (ev E) k s b μ) fun st => runK E.P (ev E) H12 [.block 0, .seq (codeAt E.P 12 [1, 1])] st (bodyEnd E.P (resOf E.P 12))) = some (.ret (LV.int .i64 (checkC k s)) μ) := by
 subst hb
 by_cases h : k = 1 ∨ k = 2 ∨ k = 5 ∨ k = 6
 ·have : G12_13 (ev E) k s (decide (k = 1 ∨ k = 2 ∨ k = 5 ∨ k = 6)) μ = some (XG12_13_0 (checkC k s) μ) := by
   refine ev_seg ?_
   rw [nfG12_13, decide_eq_true h, cond_true, law46 hs]
   unfold checkC
   rw [if_neg hk, if_pos h]
   simp only [callK_ret, getTup_t, opt_s, uncons_c, getInt_i, getStr_s, getBool_b, isNilL_n, gB_t, cond_true, cond_false, Bool.not_true, Bool.not_false, getSl_s, getSl_o, getOsl_o]
   cases hq : single s with
   | none => rfl
   | some t =>
    simp only [optT, callK_ret, getTup_t, opt_s, uncons_c, getInt_i, getStr_s, getBool_b, isNilL_n, gB_t, cond_true, cond_false, Bool.not_true, Bool.not_false, getSl_s, getSl_o, getOsl_o, rd23_tok]
    obtain ⟨a, b, c⟩ := t
    simp only
    by_cases h1 : a = 1
    ·by_cases h2 : b = k
     ·by_cases h3 : c = s
      ·subst h1; subst h2; subst h3
       simp
      ·have : ¬ (some (Tok.mk a b c) = some (Tok.mk 1 k s)) := fun e => h3 (by injection e with e; injection e)
       rw [if_neg this, decide_eq_true h1, decide_eq_true h2, decide_eq_false h3]; rfl
     ·have : ¬ (some (Tok.mk a b c) = some (Tok.mk 1 k s)) := fun e => h2 (by injection e with e; injection e)
      rw [if_neg this, decide_eq_true h1, decide_eq_false h2]; rfl
    ·have : ¬ (some (Tok.mk a b c) = some (Tok.mk 1 k s)) := fun e => h1 (by injection e with e; injection e)
     rw [if_neg this, decide_eq_false h1]; rfl
  rw [this, opt_s, nfXG12_13_0]
 ·have : G12_13 (ev E) k s (decide (k = 1 ∨ k = 2 ∨ k = 5 ∨ k = 6)) μ = some (XG12_13_2 μ) := by
   refine ev_seg ?_
   rw [nfG12_13, decide_eq_false h, cond_false]
  rw [this, opt_s, nfXG12_13_2]
  unfold checkC
  rw [if_neg hk, if_neg h]
theorem intN {t : List UInt8} (h1 : t.length ≤ 10) (h2 : t.all isDig = true) (h3 : t ≠ []) : atoiN t = (valD 0 t : Nat) := by
 unfold atoiN
 rw [atoi_digits (fun b hb => List.all_eq_true.1 h2 b hb) h3 h1]
theorem seg12_5 {t : List UInt8} (h1 : t.length ≤ 10) (h2 : t.all isDig = true) (h3 : t ≠ []) :
  (opt (G12_5 (ev E) t μ) fun st => runK E.P (ev E) H12 [.block 0, .seq (codeAt E.P 12 [1, 1])] st (bodyEnd E.P (resOf E.P 12))) = some (.ret (LV.int .i64 (if 2147483647 < valD 0 t then 28 else 0)) μ) := by
 have : G12_5 (ev E) t μ = some (XG12_5_0 (if 2147483647 < valD 0 t then 28 else 0) μ) := by
  refine ev_seg ?_
  rw [nfG12_5, law45 (by omega), atoiV_eq, intN h1 h2 h3]
  simp only [callK_ret, getTup_t, opt_s, uncons_c, getInt_i, getStr_s, getBool_b, isNilL_n, gB_t, cond_true, cond_false, Bool.not_true, Bool.not_false, getSl_s, getSl_o, getOsl_o, getCv_c]
  by_cases h : 2147483647 < valD 0 t
  ·rw [if_pos h, show decide ((2147483647 : Int) < ((valD 0 t : Nat) : Int)) = true by simp; omega]; rfl
  ·rw [if_neg h, show decide ((2147483647 : Int) < ((valD 0 t : Nat) : Int)) = false by simp; omega]; rfl
 rw [this, opt_s, nfXG12_5_0]
theorem law12 {k : Int} (hs : s.length ≤ 200000) : (ev E).call 12 [LV.int .i64 k, LV.str s] μ = some (.ret (LV.int .i64 (checkC k s)) μ) := by
 refine ev_call ?_
 rw [nf12]
 by_cases h0 : k = 0
 ·subst h0
  rw [decide_eq_true rfl, cond_true]
  unfold checkC intForm
  rw [if_pos rfl]
  cases s with
  | nil => rfl
  | cons c r =>
   have e0 : decide (c :: r = []) = false := by simp
   have e1 : strAt (c :: r) 0 = some c := rfl
   have e2 : decide ((10 : Int) < ((c :: r).length : Int)) = !decide ((c :: r).length ≤ 10) := by
    by_cases h : (c :: r).length ≤ 10
    ·rw [decide_eq_true h]; exact decide_eq_false (by omega)
    ·rw [decide_eq_false h]; exact decide_eq_true (by omega)
   have e3 : decide ((c.toNat : Int) = 48) = decide (c = 48) := u8_eq (k := 48) (by omega)
   rw [e0, cond_false, e1, e2, law43 (g := 44) (p := notDig) rfl, notDig_eq]
   simp only [callK_ret, getTup_t, opt_s, uncons_c, getInt_i, getStr_s, getBool_b, isNilL_n, gB_t, cond_true, cond_false, Bool.not_true, Bool.not_false, getSl_s, getSl_o, getOsl_o]
   rw [e3]
   have e4 : ((c :: r).any fun b => !isDig b) = !(c :: r).all isDig := by rw [← all_not (p := isDig), Bool.not_not]
   rw [e4]
   show _ = some (Out.ret (LV.int .i64 (if (decide ((c :: r).length ≤ 10) && (c :: r).all isDig && (!decide (c = 48) || decide (c :: r = [48]))) = true then (if 2147483647 < valD 0 (c :: r) then 28 else 0) else 3)) μ)
   by_cases h1 : (c :: r).length ≤ 10
   ·cases h2 : (c :: r).all isDig with
    | false => rw [decide_eq_true h1]; rfl
    | true =>
     rw [seg12_5 h1 h2 (by simp), decide_eq_true h1]
     cases decide (c = 48) <;> cases decide (c :: r = [48]) <;> simp
   ·rw [decide_eq_false h1]; rfl
 ·rw [decide_eq_false h0, cond_false]
  by_cases h1 : k = 1
  ·rw [decide_eq_true h1, cond_true]
   exact seg12_13 hs (by rw [decide_eq_true (Or.inl h1)]) h0
  ·rw [decide_eq_false h1, cond_false]
   by_cases h2 : k = 2
   ·rw [decide_eq_true h2, cond_true]
    exact seg12_13 hs (by rw [decide_eq_true (Or.inr (Or.inl h2))]) h0
   ·rw [decide_eq_false h2, cond_false]
    by_cases h5 : k = 5
    ·rw [decide_eq_true h5, cond_true]
     exact seg12_13 hs (by rw [decide_eq_true (Or.inr (Or.inr (Or.inl h5)))]) h0
    ·rw [decide_eq_false h5, cond_false]
     exact seg12_13 hs (by simp [h1, h2, h5]) h0
end
end Go.Abs

set_option linter.unusedVariables false
set_option linter.unusedSimpArgs false
set_option maxRecDepth 100000
namespace Go.Abs
open Go Go.Proofs
section
variable {μ : Mu} {s : List UInt8}
def refC2 (k : Int) (t : List UInt8) : Int := if (scan false t).e = 0 ∧ scanT false t = [⟨1, k, t⟩] then 0 else 3
def refC1 (k : Int) (t : List UInt8) : Int := if 122 < t.length ∨ textErr t ≠ 0 then 3 else refC2 k t
theorem slTok {l : List Tok} : getSl (if textErr s = 0 then LV.cv (CV.sl (toksCV (scanT false s))) else nilL) = some (toksCV (scanT false s)) := by
 by_cases ht : textErr s = 0
 ·rw [if_pos ht]; rfl
 ·rw [if_neg ht]
  have hsc : scan false s = ⟨[], [], 0, textErr s⟩ := by unfold scan; rw [if_neg ht]
  have : scanT false s = [] := by unfold scanT; rw [hsc]; exact if_neg ht
  rw [this]; rfl
theorem tok_one {t : Tok} {k : Int} {s : List UInt8} : (decide (t.kind = 1) && (decide (t.type = k) && (decide (t.text = s) && true))) = decide (t = ⟨1, k, s⟩) := by
 obtain ⟨a, b, c⟩ := t
 exact tok_eq ⟨a, b, c⟩ ⟨1, k, s⟩
theorem seg13_7 {k : Int} (hs : s.length ≤ 200000) : G13_7 (ev E) k s μ = some (XG13_7_0 (refC2 k s) μ) := by
 refine ev_seg ?_
 rw [nfG13_7, law18 hs]
 simp only [callK_ret, getTup_t, opt_s, uncons_c, getInt_i, getStr_s, getBool_b, isNilL_n, gB_t, cond_true, cond_false, Bool.not_true, Bool.not_false, getSl_s, getSl_o, getOsl_o]
 rw [slTok (l := []), opt_s]
 unfold refC2
 by_cases he : (scan false s).e = 0
 ·rw [decide_eq_true he, Bool.not_true, cond_false]
  have hl : (toksCV (scanT false s)).length = (scanT false s).length := by simp [toksCV]
  rw [hl]
  match h : scanT false s with
  | [] => rw [if_neg (by simp)]; rfl
  | [t] =>
   have e1 : slAt (toksCV [t]) (0 : Int) = some t.cv := rfl
   rw [show decide ((([t] : List Tok).length : Int) = 1) = true from rfl, Bool.not_true, cond_false, e1, opt_s, rd23_tok, tok_one]
   by_cases ht : t = ⟨1, k, s⟩
   ·rw [decide_eq_true ht, if_pos ⟨he, by rw [ht]⟩]; rfl
   ·rw [decide_eq_false ht, if_neg (fun e => ht (by simpa using e.2))]; rfl
  | a :: b :: r =>
   have : decide (((a :: b :: r).length : Int) = 1) = false := by simp; omega
   rw [this, if_neg (by simp)]; rfl
 ·rw [decide_eq_false he, if_neg (fun e => he e.1)]; rfl
theorem seg13_5 {k : Int} (hs : s.length ≤ 200000) : G13_5 (ev E) k s μ = some (XG13_5_0 (refC1 k s) μ) := by
 refine ev_seg ?_
 rw [nfG13_5, law48 hs]
 simp only [callK_ret, getTup_t, opt_s, uncons_c, getInt_i, getStr_s, getBool_b, isNilL_n, gB_t, cond_true, cond_false, Bool.not_true, Bool.not_false, getSl_s, getSl_o, getOsl_o]
 rw [seg13_7 hs, opt_s, nfXG13_7_0]
 unfold refC1
 by_cases h1 : 122 < s.length
 ·rw [if_pos (Or.inl h1), show decide ((122 : Int) < (s.length : Int)) = true from decide_eq_true (by omega)]; rfl
 ·rw [show decide ((122 : Int) < (s.length : Int)) = false from decide_eq_false (by omega), cond_false]
  by_cases h2 : textErr s = 0
  ·rw [decide_eq_true h2, if_neg (by simp [h1, h2])]; rfl
  ·rw [decide_eq_false h2, if_pos (Or.inr h2)]; rfl
def over (t : List UInt8) : Bool := decide (t.length = 10) && (decide (digR t 0 = 10) && (headIs (fun c => !decide (c = 48)) t && !(Op.bytesLess t most10 || decide (t = most10))))
def refCC (k : Int) (t : List UInt8) : Int :=
 if !(decide (0 ≤ k) && decide (k ≤ 6)) || (decide (k = 3) || decide (k = 4)) then 15
 else if k = 0 ∧ over t = true then 28 else refC1 k t
theorem seg13_3 {k : Int} (hs : s.length ≤ 200000) : G13_3 (ev E) k s μ = some (XG13_3_0 (if k = 0 ∧ over s = true then 28 else refC1 k s) μ) := by
 refine ev_seg ?_
 rw [nfG13_3]
 have h47 := law47 (μ := μ) hs (n := 0) (Nat.zero_le _)
 have e0 : ((0 : Nat) : Int) = 0 := rfl
 rw [e0] at h47
 rw [h47]
 simp only [callK_ret, getTup_t, opt_s, uncons_c, getInt_i, getStr_s, getBool_b, isNilL_n, gB_t, cond_true, cond_false, Bool.not_true, Bool.not_false, getSl_s, getSl_o, getOsl_o]
 rw [seg13_5 hs, opt_s, nfXG13_5_0]
 by_cases h0 : k = 0
 ·rw [decide_eq_true h0, cond_true]
  unfold over
  by_cases h1 : s.length = 10
  ·rw [show decide ((s.length : Int) = 10) = true from decide_eq_true (by omega), cond_true, decide_eq_true h1]
   by_cases h2 : digR s 0 = 10
   ·rw [show decide ((digR s 0 : Int) = 10) = true from decide_eq_true (by omega), cond_true, decide_eq_true h2]
    match s, h1 with
    | c :: r, h1 =>
     have e3 : decide ((c.toNat : Int) = 48) = decide (c = 48) := u8_eq (k := 48) (by omega)
     rw [show strAt (c :: r) 0 = some c from rfl, opt_s, e3]
     show _ = some (XG13_3_0 (if k = 0 ∧ (true && (true && (!decide (c = 48) && !(Op.bytesLess (c :: r) most10 || decide (c :: r = most10))))) = true then 28 else refC1 k (c :: r)) μ)
     simp only [h0, true_and, Bool.true_and]
     have e4 : ([50, 49, 52, 55, 52, 56, 51, 54, 52, 55] : List UInt8) = most10 := rfl
     rw [e4]
     cases decide (c = 48) <;> cases (Op.bytesLess (c :: r) most10 || decide (c :: r = most10)) <;> rfl
   ·rw [show decide ((digR s 0 : Int) = 10) = false from decide_eq_false (by omega), cond_false, decide_eq_false h2]
    simp
  ·rw [show decide ((s.length : Int) = 10) = false from decide_eq_false (by omega), cond_false, decide_eq_false h1]
   simp
 ·rw [decide_eq_false h0, cond_false, if_neg (by simp [h0])]
theorem law13 {k : Int} (hs : s.length ≤ 200000) : (ev E).call 13 [LV.int .i64 k, LV.str s] μ = some (.ret (LV.int .i64 (refCC k s)) μ) := by
 refine ev_call ?_
 rw [nf13, law23]
 simp only [callK_ret, getTup_t, opt_s, uncons_c, getInt_i, getStr_s, getBool_b, isNilL_n, gB_t, cond_true, cond_false, Bool.not_true, Bool.not_false, getSl_s, getSl_o, getOsl_o]
 rw [seg13_3 hs, opt_s, nfXG13_3_0]
 unfold refCC
 cases decide (0 ≤ k) <;> cases decide (k ≤ 6) <;> cases decide (k = 3) <;> cases decide (k = 4) <;> rfl
end
end Go.Abs

set_option linter.unusedVariables false
set_option linter.unusedSimpArgs false
namespace Go.Abs
open Go Go.Proofs
theorem dec_small {n : Nat} (h : n < 10) : Lib.decDigits n = [UInt8.ofNat (48 + n)] := Lib.decDigits_one h
theorem dec_big {n : Nat} (h : ¬ n < 10) : Lib.decDigits n = Lib.decDigits (n / 10) ++ [UInt8.ofNat (48 + n % 10)] := by
 rw [Lib.decDigits, dif_neg h]
theorem dig_ofNat {d : Nat} (h : d < 10) : isDig (UInt8.ofNat (48 + d)) = true ∧ (UInt8.ofNat (48 + d)).toNat = 48 + d := by
 have : (UInt8.ofNat (48 + d)).toNat = 48 + d := UInt8.toNat_ofNat_of_lt' (by show 48 + d < 256; omega)
 exact ⟨isDig_iff.2 (by omega), this⟩
theorem dec_dig : ∀ (n : Nat), ∀ b ∈ Lib.decDigits n, isDig b = true := by
 intro n
 induction n using Nat.strongRecOn with
 | _ n ih =>
  intro b hb
  by_cases h : n < 10
  ·rw [dec_small h] at hb
   rw [List.mem_singleton.1 hb]
   exact (dig_ofNat h).1
  ·rw [dec_big h] at hb
   rcases List.mem_append.1 hb with h1 | h1
   ·exact ih (n / 10) (by omega) b h1
   ·rw [List.mem_singleton.1 h1]
    exact (dig_ofNat (by omega)).1
theorem val_dec : ∀ (n : Nat), valD 0 (Lib.decDigits n) = n := by
 intro n
 induction n using Nat.strongRecOn with
 | _ n ih =>
  by_cases h : n < 10
  ·rw [dec_small h, valD_cons, valD_nil, (dig_ofNat h).2]; omega
  ·rw [dec_big h, valD_app, ih (n / 10) (by omega), (dig_ofNat (d := n % 10) (by omega)).2]; omega
theorem dec_lean : ∀ (n : Nat), lean0 (Lib.decDigits n) := by
 intro n
 induction n using Nat.strongRecOn with
 | _ n ih =>
  by_cases h : n < 10
  ·rw [dec_small h]; exact Or.inl rfl
  ·rw [dec_big h]
   rcases ih (n / 10) (by omega) with h1 | ⟨c, r, h1, h2⟩
   ·match h3 : Lib.decDigits (n / 10), h1 with
    | [c], _ =>
     refine Or.inr ⟨c, _, rfl, fun e => ?_⟩
     have := val_dec (n / 10)
     rw [h3, e] at this
     have h48 : valD 0 [(48 : UInt8)] = 0 := rfl
     omega
   ·rw [h1]; exact Or.inr ⟨c, _, rfl, h2⟩
theorem dec_short : ∀ (k n : Nat), 1 ≤ k → n < 10 ^ k → (Lib.decDigits n).length ≤ k
 | 0, n, h, _ => absurd h (by omega)
 | 1, n, _, h => by rw [dec_small (by simpa using h)]; exact Nat.le_refl _
 | k + 2, n, _, h => by
  by_cases h9 : n < 10
  ·rw [dec_small h9]; simp
  ·rw [dec_big h9, List.length_append]
   have := dec_short (k + 1) (n / 10) (by omega) (by rw [Nat.pow_succ] at h; exact (Nat.div_lt_iff_lt_mul (by omega)).2 h)
   simp only [List.length_cons, List.length_nil]
   omega
def fine (t : Tok) : Prop := t.kind = 1 → t.text.length ≤ 122 ∧ (t.type = 0 → ∃ n : Nat, n ≤ 2147483647 ∧ t.text = Lib.decDigits n) ∧ (t.type = 6 → ∃ u : List UInt8, u.length ≤ 60 ∧ t.text = charsT u)
def fineE {β : Type} : Except Int (Tok × β) → Prop
 | .ok q => fine q.1
 | .error _ => True
section
variable {s : List UInt8} {fx : Bool} {n : Nat}
theorem fine_no {q : Except Int (Tok × Nat)} (h : fineE q) : fineE (noK q) := by cases q <;> exact h
theorem chars_fine {t : List UInt8} (h : t.length ≤ 60) : fine ⟨1, 6, charsT t⟩ := by
 intro _
 have := dbl_len t
 refine ⟨?_, fun e => absurd e (by simp), fun _ => ⟨t, h, rfl⟩⟩
 show (charsT t).length ≤ 122
 unfold charsT
 simp only [List.length_append, List.length_cons, List.length_nil]
 omega
theorem quoted_fine : fineE (quoted s n) := by
 unfold quoted
 split
 ·trivial
 ·split
  ·trivial
  ·exact chars_fine (by omega)
theorem real_fine {whole part digits : List UInt8} {letter : UInt8} {ok : Bool} {e : Nat} : fineE (real whole part digits letter ok e) := by
 unfold real
 split
 ·trivial
 ·rename_i hl
  unfold tooLong at hl
  simp only [Bool.or_eq_true, decide_eq_true_eq, not_or] at hl
  have h1 := orZero_len (trimL whole)
  have h2 := orZero_len (trimR part)
  have h3 : (power digits ok).length ≤ 21 := by
   unfold power
   split
   ·exact Lib.itoa_length_le _ (atoiN_range digits).1 (atoiN_range digits).2
   ·simp
  have h4 : (realText whole part).length ≤ 33 := by
   unfold realText
   simp only [List.length_append, List.length_cons, List.length_nil]
   omega
  unfold realTok
  show fine _
  split
  ·exact fun _ => ⟨by simp only [List.length_append, List.length_cons, List.length_nil]; omega, fun e => absurd e (by simp), fun e => absurd e (by simp)⟩
  ·split
   ·exact fun _ => ⟨by simp only; omega, fun e => absurd e (by simp), fun e => absurd e (by simp)⟩
   ·exact fun _ => ⟨by simp only [List.length_append, List.length_cons, List.length_nil]; omega, fun e => absurd e (by simp), fun e => absurd e (by simp)⟩
theorem integer_fine {d : List UInt8} (hd : ∀ b ∈ d, isDig b = true) {t : Tok} (h : integer d = .ok t) : fine t := by
 unfold integer at h
 split at h
 ·cases h
 ·rename_i hh
  simp only [not_or] at hh
  injection h with h
  subst h
  obtain ⟨h1, h2, h3⟩ := hh
  have h0 : d ≠ [] := fun e => h2 (by rw [e]; rfl)
  have hN : atoiN d = (valD 0 d : Nat) := by unfold atoiN; rw [atoi_digits hd h0 (by omega)]
  rw [hN] at h3 ⊢
  intro _
  have hT : Lib.itoa ((valD 0 d : Nat) : Int) = Lib.decDigits (valD 0 d) := itoa_nat
  have hs := dec_short 10 (valD 0 d) (by omega) (by omega)
  exact ⟨by show (Lib.itoa ((valD 0 d : Nat) : Int)).length ≤ 122; rw [hT]; omega, fun _ => ⟨valD 0 d, by omega, hT⟩, fun e => absurd e (by simp)⟩
theorem number_fine : fineE (number fx s n) := by
 unfold number
 simp only
 split
 ·split
  ·rename_i t ht
   exact integer_fine (fun b hb => runC_all b hb) ht
  ·trivial
 ·exact real_fine
theorem kind_fine {t : Tok} (h : t.kind ≠ 1) : fine t := fun e => absurd e h
theorem op_fine : fineE (opTok fx s n) := by
 unfold opTok
 simp only
 split
 ·exact kind_fine (by show (2 : Int) ≠ 1; decide)
 ·split
  ·exact kind_fine (by show (2 : Int) ≠ 1; decide)
  ·split
   ·exact kind_fine (by show (2 : Int) ≠ 1; decide)
   ·split
    ·exact kind_fine (by show (2 : Int) ≠ 1; decide)
    ·trivial
theorem true_len : trueS.length = 6 ∧ falseS.length = 7 := by decide
theorem word_fine {w : List UInt8} : fine (wordTok w) := by
 unfold wordTok
 split
 ·rename_i h
  have := true_len
  refine fun _ => ⟨?_, fun e => absurd e (by simp), fun e => absurd e (by simp)⟩
  rcases h with h | h <;> (simp only [h]; omega)
 ·exact kind_fine (by simp)
theorem token_fine {out : List Tok} : fineE (tokenK fx s out n) := by
 unfold tokenK
 split
 ·rename_i h
  simp only [Bool.and_eq_true, decide_eq_true_eq] at h
  obtain ⟨_, h1, h2, h3, h4⟩ := h
  unfold holK
  split
  ·trivial
  ·refine chars_fine ?_
   rw [List.length_take]
   omega
 ·unfold tokenN
  split
  ·split
   ·trivial
   ·exact kind_fine (by simp)
  ·split
   ·exact fine_no number_fine
   ·split
    ·split
     ·exact word_fine
     ·trivial
    ·split
     ·have := quoted_fine (s := s) (n := n)
      unfold quotedK
      cases hq : quoted s n with
      | ok q => rw [hq] at this; exact this
      | error e => trivial
     ·exact fine_no op_fine
theorem split_fine : ∀ (k n : Nat) (out : List Tok) (kept : List Nat), (∀ t ∈ out, fine t) → ∀ t ∈ (splitL fx s k n out kept).2.1, fine t := by
 intro k
 induction k with
 | zero => intro n out kept h; exact h
 | succ k ih =>
  intro n out kept h
  unfold splitL
  split
  ·exact h
  ·have hf := token_fine (fx := fx) (s := s) (n := n + blanks (s.drop n)) (out := out)
   split
   ·exact h
   ·rename_i q hq
    rw [hq] at hf
    refine ih _ _ _ fun t ht => ?_
    rcases List.mem_append.1 ht with h1 | h1
    ·exact h t h1
    ·rw [List.mem_singleton.1 h1]; exact hf
theorem scan_fine {t : Tok} (h : t ∈ scanT fx s) : fine t := by
 unfold scanT at h
 split at h
 ·unfold scan at h
  split at h
  ·simp only at h
   split at h
   ·split at h <;> exact split_fine _ _ _ _ (fun _ h => absurd h (by simp)) _ h
   ·exact split_fine _ _ _ _ (fun _ h => absurd h (by simp)) _ h
  ·simp at h
 ·simp at h
theorem single_iff {t : Tok} : single s = some t ↔ (scan false s).e = 0 ∧ scanT false s = [t] := by
 unfold single scanT
 constructor
 ·intro h
  split at h
  ·rename_i h1
   obtain ⟨_, hl, _⟩ := scan_ok h1.1
   refine ⟨h1.1, ?_⟩
   rw [if_pos h1.1]
   rw [h1.2] at hl
   obtain ⟨x, hx⟩ := List.length_eq_one_iff.1 hl.symm
   rw [hx] at h ⊢
   simp at h
   rw [h]
  ·cases h
 ·rintro ⟨h1, h2⟩
  obtain ⟨_, hl, _⟩ := scan_ok h1
  rw [if_pos h1] at h2
  rw [h2] at hl
  rw [if_pos ⟨h1, hl⟩, h2]
  rfl
theorem refC2_iff {k : Int} : refC2 k s = if single s = some ⟨1, k, s⟩ then 0 else 3 := by
 unfold refC2
 by_cases h : single s = some ⟨1, k, s⟩
 ·rw [if_pos h, if_pos (single_iff.1 h)]
 ·rw [if_neg h, if_neg (fun e => h (single_iff.2 e))]
theorem refC1_eq {k : Int} : refC1 k s = if single s = some ⟨1, k, s⟩ then 0 else 3 := by
 unfold refC1
 split
 ·rename_i h
  rw [if_neg ?_]
  intro e
  obtain ⟨h1, h2⟩ := single_iff.1 e
  have hf : fine ⟨1, k, s⟩ := scan_fine (s := s) (fx := false) (by rw [h2]; exact List.mem_singleton.2 rfl)
  rcases h with h | h
  ·have := (hf rfl).1
   simp only at this
   omega
  ·exact h (scan_ok h1).1
 ·exact refC2_iff
theorem form_lean : intForm s = true ↔ s.length ≤ 10 ∧ (∀ b ∈ s, isDig b = true) ∧ lean0 s := by
 unfold intForm
 rw [Bool.and_eq_true, Bool.and_eq_true, decide_eq_true_eq, List.all_eq_true, and_assoc]
 refine and_congr_right fun _ => and_congr_right fun hd => ?_
 match s with
 | [] =>
  constructor
  ·intro h; cases h
  ·rintro (h | ⟨c, r, h, _⟩) <;> simp at h
 | c :: r =>
  show (!decide (c = 48) || decide (c :: r = [48])) = true ↔ _
  rw [Bool.or_eq_true, Bool.not_eq_true', decide_eq_false_iff_not, decide_eq_true_eq]
  constructor
  ·rintro (h | h)
   ·exact Or.inr ⟨c, r, rfl, h⟩
   ·rw [h]; exact Or.inl rfl
  ·rintro (h | ⟨c', r', h, h2⟩)
   ·simp only [List.length_cons] at h
    have : r = [] := List.eq_nil_of_length_eq_zero (by omega)
    subst this
    by_cases hc : c = 48
    ·subst hc; exact Or.inr rfl
    ·exact Or.inl hc
   ·injection h with h3 h4
    subst h3
    exact Or.inl h2
theorem digR_all (hs : digR s 0 = s.length) : ∀ b ∈ s, isDig b = true := by
 unfold digR at hs
 rw [List.drop_zero] at hs
 have h1 : (s.takeWhile isDig).length = s.length := hs
 have h2 : s.takeWhile isDig = s := (List.takeWhile_prefix isDig).eq_of_length h1
 intro b hb
 rw [← h2] at hb
 exact takeWhile_all _ b hb
theorem takeWhile_full {p : UInt8 → Bool} : ∀ (l : List UInt8), (∀ b ∈ l, p b = true) → l.takeWhile p = l
 | [], _ => rfl
 | c :: r, h => by rw [List.takeWhile_cons, h c (by simp), if_pos rfl, takeWhile_full r fun b hb => h b (List.mem_cons_of_mem _ hb)]
theorem over_iff : over s = true ↔ intForm s = true ∧ 2147483647 < valD 0 s := by
 constructor
 ·intro h
  unfold over at h
  simp only [Bool.and_eq_true, decide_eq_true_eq, Bool.not_eq_true', Bool.or_eq_false_iff, decide_eq_false_iff_not] at h
  obtain ⟨h1, h2, h3, h4, h5⟩ := h
  have hd := digR_all (s := s) (by rw [h2, h1])
  refine ⟨form_lean.2 ⟨by omega, hd, ?_⟩, ?_⟩
  ·match s, h1 with
   | c :: r, _ => exact Or.inr ⟨c, r, rfl, by simpa [headIs] using h3⟩
  ·rcases less_total s most10 (by rw [h1]; rfl) with h | h | h
   ·rw [h] at h4; cases h4
   ·exact absurd h h5
   ·have := less_val most10 s (by rw [h1]; rfl) most_dig hd h
    rw [most_val] at this
    exact this
 ·rintro ⟨h1, h2⟩
  obtain ⟨a, b, c⟩ := form_lean.1 h1
  have h10 : s.length = 10 := by
   have hb := (valD_bounds s 0 b).2
   by_cases h : s.length ≤ 9
   ·have : 10 ^ s.length ≤ 10 ^ 9 := Nat.pow_le_pow_right (by omega) h
    omega
   ·omega
  have e1 : digR s 0 = 10 := by unfold digR; rw [List.drop_zero, takeWhile_full s b, h10]
  have e2 : headIs (fun c => !decide (c = 48)) s = true := by
   rcases c with c | ⟨x, r, rfl, hx⟩
   ·omega
   ·simpa [headIs] using hx
  have e3 : Op.bytesLess s most10 = false := by
   cases h : Op.bytesLess s most10 with
   | false => rfl
   | true =>
    have := less_val s most10 (by rw [h10]; rfl) b most_dig h
    rw [most_val] at this
    omega
  have e4 : s ≠ most10 := fun e => by rw [e, most_val] at h2; omega
  unfold over
  rw [decide_eq_true h10, decide_eq_true e1, e2, e3, decide_eq_false e4]
  rfl
theorem single_of {t : Tok} {c : UInt8} {kept : List Nat} (hT : textErr s = 0) (h0 : s[0]? = some c) (hc : c ≠ 32) (h : tokenN false s 0 c = .ok (t, s.length, kept)) : single s = some t := by
 obtain ⟨r, hs⟩ : ∃ r, s = c :: r := by
  cases s with
  | nil => cases h0
  | cons x r => simp at h0; exact ⟨r, by rw [h0]⟩
 have hb0 : blanks (s.drop 0) = 0 := by
  rw [List.drop_zero, hs]
  unfold blanks
  simp [hc]
 have hg : (s[0]?).getD 0 = c := by rw [h0]; rfl
 have htok : tokenK false s [] 0 = .ok (t, s.length, kept) := by rw [token_free, hg, h]
 have hlen : s.length ≠ 0 := by rw [hs]; simp
 have hsp : splitL false s (s.length + 1) 0 [] [] = (none, [t], kept) := by
  unfold splitL
  rw [hb0, Nat.add_zero, if_neg (by omega), htok]
  simp only [List.nil_append]
  obtain ⟨k, hk⟩ : ∃ k, s.length = k + 1 := ⟨s.length - 1, by omega⟩
  rw [show splitL false s s.length s.length [t] kept = splitL false s (k + 1) s.length [t] kept from by rw [← hk]]
  unfold splitL
  rw [if_pos (by omega)]
 have hsc : scan false s = ⟨[t], kept, 1, 0⟩ := by
  unfold scan
  rw [if_pos hT, hsp]
  rfl
 refine single_iff.2 ⟨by rw [hsc], ?_⟩
 unfold scanT
 rw [hsc]
 rfl
theorem form_single (h1 : intForm s = true) (h2 : valD 0 s ≤ 2147483647) : single s = some ⟨1, 0, s⟩ := by
 obtain ⟨a, b, c⟩ := form_lean.1 h1
 have h0 : s ≠ [] := by
  rintro rfl
  rcases c with c | ⟨x, r, h, _⟩
  ·simp at c
  ·cases h
 have hT : textErr s = 0 := by
  unfold textErr isTextB
  rw [if_neg (by omega), if_pos]
  rw [Bool.not_eq_true', List.any_eq_false]
  intro x hx
  have := isDig_iff.1 (b x hx)
  simp only [Bool.or_eq_true, decide_eq_true_eq, not_or]
  omega
 have hW : runC false isDig s 0 = s := by rw [runC_free isDig0, List.drop_zero, takeWhile_full s b]
 have hE : runE false isDig s 0 = s.length := by rw [runE_free isDig0, List.drop_zero, takeWhile_full s b, Nat.zero_add]
 have hA : atC false s s.length = 0 := by rw [atC_free, List.getElem?_eq_none (Nat.le_refl _)]; rfl
 have hD : numDot false s 0 = false := by unfold numDot; rw [hE, hA]; rfl
 have hN : numEnd false s 0 = s.length := by unfold numEnd; rw [hD]; exact hE
 have hX : (expo false s s.length).2.2.2 = false := by
  unfold expo
  have : expL false s s.length = 0 := by unfold expL; rw [hA]; rfl
  rw [this]
  rfl
 have hI : integer s = .ok ⟨1, 0, s⟩ := by
  have ha := atoi_digits b h0 a
  have hv : atoiN s = (valD 0 s : Nat) := by unfold atoiN; rw [ha]
  have hk : atoiK s = true := by unfold atoiK; rw [ha]
  unfold integer
  rw [if_neg (by rw [hk, hv]; simp; omega), hv, itoa_nat, dec_val s.length s rfl b c]
 have hnum : number false s 0 = .ok (⟨1, 0, s⟩, s.length) := by
  unfold number
  simp only [hN, hX, hD]
  rw [show numWhole false s 0 = s from hW, hI]
  rfl
 obtain ⟨x, r, hs⟩ : ∃ x r, s = x :: r := by
  cases s with
  | nil => exact absurd rfl h0
  | cons x r => exact ⟨x, r, rfl⟩
 have hx : isDig x = true := b x (by rw [hs]; simp)
 have hxl : isLet x = false := by
  have := isDig_iff.1 hx
  unfold isLet
  rw [Bool.or_eq_false_iff, Bool.and_eq_false_iff, Bool.and_eq_false_iff, decide_eq_false_iff_not, decide_eq_false_iff_not, decide_eq_false_iff_not]
  omega
 refine single_of (c := x) (kept := []) hT (by rw [hs]; rfl) (fun e => by rw [e] at hx; exact absurd hx (by decide)) ?_
 unfold tokenN
 rw [hxl, hx, hnum]
 rfl
theorem int_single : single s = some ⟨1, 0, s⟩ ↔ intForm s = true ∧ valD 0 s ≤ 2147483647 := by
 constructor
 ·intro h
  obtain ⟨h1, h2⟩ := single_iff.1 h
  have hf : fine ⟨1, 0, s⟩ := scan_fine (s := s) (fx := false) (by rw [h2]; exact List.mem_singleton.2 rfl)
  obtain ⟨m, hm, ht⟩ := (hf rfl).2.1 rfl
  simp only at ht
  have hs := dec_short 10 m (by omega) (by omega)
  refine ⟨form_lean.2 ⟨by rw [ht]; exact hs, by rw [ht]; exact dec_dig m, by rw [ht]; exact dec_lean m⟩, by rw [ht, val_dec]; exact hm⟩
 ·rintro ⟨h1, h2⟩
  exact form_single h1 h2
theorem check_eq (k : Int) : checkC k s = refCC k s := by
 unfold checkC refCC
 by_cases h0 : k = 0
 ·subst h0
  rw [if_pos rfl, refC1_eq]
  simp only [true_and]
  rw [show (!(decide ((0 : Int) ≤ 0) && decide ((0 : Int) ≤ 6)) || (decide ((0 : Int) = 3) || decide ((0 : Int) = 4))) = false from rfl, if_neg (by simp : ¬ (false = true))]
  by_cases hf : intForm s = true
  ·rw [if_pos hf]
   by_cases hv : 2147483647 < valD 0 s
   ·rw [if_pos hv, if_pos (over_iff.2 ⟨hf, hv⟩)]
   ·rw [if_neg hv, if_neg (fun e => hv (over_iff.1 e).2), if_pos (int_single.2 ⟨hf, by omega⟩)]
  ·rw [if_neg hf, if_neg (fun e => hf (over_iff.1 e).1), if_neg (fun e => hf (int_single.1 e).1)]
 ·rw [if_neg h0]
  simp only [h0, false_and, if_false]
  by_cases h : k = 1 ∨ k = 2 ∨ k = 5 ∨ k = 6
  ·have hk : (!(decide (0 ≤ k) && decide (k ≤ 6)) || (decide (k = 3) || decide (k = 4))) = false := by rcases h with rfl | rfl | rfl | rfl <;> decide
   rw [if_pos h, hk, if_neg (by simp : ¬ (false = true)), refC1_eq]
  ·rw [if_neg h, if_pos]
   simp only [Bool.or_eq_true, Bool.not_eq_true', Bool.and_eq_false_iff, decide_eq_false_iff_not, decide_eq_true_eq]
   omega
end
end Go.Abs

set_option linter.unusedVariables false
set_option linter.unusedSimpArgs false
set_option maxRecDepth 100000
namespace Go.Abs
open Go Go.Proofs
end Go.Abs

set_option linter.unusedVariables false
set_option linter.unusedSimpArgs false
set_option maxRecDepth 100000
namespace Go.Abs
open Go Go.Proofs
theorem index_two0 : ∀ (u : List UInt8), (∀ b ∈ u, b ≠ 39) → Lib.index u [39, 39] = -1
 | [], _ => rfl
 | c :: r, h => by
  have hp : (([39, 39] : List UInt8).isPrefixOf (c :: r)) = false := by
   have : (39 == c) = false := by simpa using fun e : 39 = c => h c (by simp) e.symm
   simp [List.isPrefixOf, this]
  have := index_two0 r fun b hb => h b (List.mem_cons_of_mem _ hb)
  simp only [Lib.index, hp, this]
  rfl
theorem index_two : ∀ (a l : List UInt8), (∀ b ∈ a, b ≠ 39) → Lib.index (a ++ 39 :: 39 :: l) [39, 39] = (a.length : Int)
 | [], l, _ => by simp [Lib.index, List.isPrefixOf]
 | c :: r, l, h => by
  have hp : (([39, 39] : List UInt8).isPrefixOf (c :: (r ++ 39 :: 39 :: l))) = false := by
   have : (39 == c) = false := by simpa using fun e : 39 = c => h c (by simp) e.symm
   simp [List.isPrefixOf, this]
  have h1 := index_two r l fun b hb => h b (List.mem_cons_of_mem _ hb)
  have hne : (Lib.index (r ++ 39 :: 39 :: l) [39, 39] == -1) = false := by rw [h1]; simp; try omega
  rw [List.cons_append]
  simp only [Lib.index, hp, hne, h1]
  simp
theorem split39 (l : List UInt8) : (∀ b ∈ l, b ≠ 39) ∨ ∃ a r, l = a ++ 39 :: r ∧ ∀ b ∈ a, b ≠ 39 := by
 rcases index_split l 39 with ⟨_, h⟩ | ⟨a, r, h1, h2, _⟩
 ·exact Or.inl h
 ·exact Or.inr ⟨a, r, h1, h2⟩
theorem replaceK_und : ∀ (k : Nat) (u : List UInt8), Lib.count (dbl u) [39, 39] ≤ k → Lib.replaceK [39, 39] [39] k (dbl u) = u
 | 0, u, h => by
  rcases split39 u with h2 | ⟨a, r, h1, h2⟩
  ·have := dbl_app u [] h2
   simp only [List.append_nil, dbl] at this
   rw [this]; rfl
  ·exfalso
   have hd : dbl u = a ++ 39 :: 39 :: dbl r := by rw [h1, dbl_app a _ h2, dbl, if_pos rfl]
   have := Lib.count_hit (sub := [39, 39]) (by simp) (index_two a (dbl r) h2)
   rw [hd] at h
   omega
 | k + 1, u, h => by
  rcases split39 u with h2 | ⟨a, r, h1, h2⟩
  ·have := dbl_app u [] h2
   simp only [List.append_nil, dbl] at this
   rw [this, Lib.replaceK, index_two0 u h2]; rfl
  ·have hd : dbl u = a ++ 39 :: 39 :: dbl r := by rw [h1, dbl_app a _ h2, dbl, if_pos rfl]
   have hi := index_two a (dbl r) h2
   rw [← hd] at hi
   have hc := Lib.count_hit (sub := [39, 39]) (by simp) hi
   rw [Lib.replaceK_hit _ _ _ _ _ hi]
   have hdr : (dbl u).drop (a.length + ([39, 39] : List UInt8).length) = dbl r := by
    rw [hd, ← List.drop_drop, List.drop_left' rfl]; rfl
   have ht : (dbl u).take a.length = a := by rw [hd, List.take_left' rfl]
   rw [hdr] at hc
   rw [hdr, ht, replaceK_und k r (by omega), h1]
   simp
theorem und_dbl (u : List UInt8) : Lib.replaceAll (dbl u) [39, 39] [39] = u := by
 unfold Lib.replaceAll Lib.replace Lib.replaceNum
 rw [if_neg (by decide), if_pos (Or.inl (by decide))]
 exact replaceK_und _ _ (Nat.le_refl _)
theorem quotL_dbl : ∀ (u : List UInt8), quotL 39 (dbl u ++ [39]) = some (u, (dbl u).length + 1)
 | [] => quotL_end (fun d t h => by cases h)
 | c :: r => by
  by_cases hc : c = 39
  ·subst hc
   rw [dbl, if_pos rfl, List.cons_append, List.cons_append, quotL_two, quotL_dbl r]
   simp only [Option.map_some, List.length_cons]
  ·rw [dbl, if_neg hc, List.cons_append, quotL_ne hc, quotL_dbl r]
   simp only [Option.map_some, List.length_cons]
theorem dbl_mem : ∀ (u : List UInt8), ∀ b ∈ dbl u, b ∈ u ∨ b = 39
 | [], b, h => by simp [dbl] at h
 | c :: r, b, h => by
  unfold dbl at h
  split at h
  ·rcases List.mem_cons.1 h with h | h
   ·exact Or.inr h
   ·rcases List.mem_cons.1 h with h | h
    ·exact Or.inr h
    ·rcases dbl_mem r b h with h | h
     ·exact Or.inl (List.mem_cons_of_mem _ h)
     ·exact Or.inr h
  ·rcases List.mem_cons.1 h with h | h
   ·exact Or.inl (by rw [h]; simp)
   ·rcases dbl_mem r b h with h | h
    ·exact Or.inl (List.mem_cons_of_mem _ h)
    ·exact Or.inr h
theorem text_iff {s : List UInt8} : isTextB s = true ↔ ∀ b ∈ s, 32 ≤ b.toNat ∧ b.toNat ≤ 126 := by
 unfold isTextB
 rw [Bool.not_eq_true', List.any_eq_false]
 constructor
 ·intro h b hb
  have := h b hb
  simp only [Bool.or_eq_true, decide_eq_true_eq, not_or] at this
  omega
 ·intro h b hb
  have := h b hb
  simp only [Bool.or_eq_true, decide_eq_true_eq, not_or]
  omega
theorem chars_text {u : List UInt8} (h : isTextB u = true) : isTextB (charsT u) = true := by
 rw [text_iff] at h ⊢
 intro b hb
 unfold charsT at hb
 simp only [List.mem_append, List.mem_singleton] at hb
 rcases hb with (h1 | h1) | h1
 ·subst h1; decide
 ·rcases dbl_mem u b h1 with h2 | h2
  ·exact h b h2
  ·subst h2; decide
 ·subst h1; decide
theorem charsT_len (u : List UInt8) : (charsT u).length = (dbl u).length + 2 := by
 unfold charsT
 simp only [List.length_append, List.length_cons, List.length_nil]
 omega
theorem chars_single {u : List UInt8} (h : isTextB u = true) (hl : u.length ≤ 60) : single (charsT u) = some ⟨1, 6, charsT u⟩ := by
 have hd := dbl_len u
 have hlen := charsT_len u
 have hT : textErr (charsT u) = 0 := by unfold textErr; rw [if_neg (by omega), if_pos (chars_text h)]
 refine single_of (c := 39) (kept := List.range' 0 ((charsT u).length - 0)) hT rfl (by decide) ?_
 have hq : quoted (charsT u) 0 = .ok (⟨1, 6, charsT u⟩, (charsT u).length) := by
  unfold quoted
  have e1 : ((charsT u)[0]?).getD 0 = 39 := rfl
  have e2 : (charsT u).drop (0 + 1) = dbl u ++ [39] := rfl
  rw [e1, e2, quotL_dbl]
  simp only
  rw [if_neg (by omega), hlen]
  congr 2
  omega
 show quotedK (charsT u) 0 = _
 unfold quotedK
 rw [hq]
theorem check6 {s : List UInt8} (h : checkC 6 s = 0) : ∃ u, u.length ≤ 60 ∧ s = charsT u := by
 unfold checkC at h
 rw [if_neg (by decide), if_pos (by decide)] at h
 by_cases hs : single s = some ⟨1, 6, s⟩
 ·obtain ⟨h1, h2⟩ := single_iff.1 hs
  have hf : fine ⟨1, 6, s⟩ := scan_fine (s := s) (fx := false) (by rw [h2]; exact List.mem_singleton.2 rfl)
  exact (hf rfl).2.2 rfl
 ·rw [if_neg hs] at h; cases h
theorem check_chars {u : List UInt8} (h : isTextB u = true) (hl : u.length ≤ 60) : checkC 6 (charsT u) = 0 := by
 unfold checkC
 rw [if_neg (by decide), if_pos (by decide), if_pos (chars_single h hl)]
section
variable {μ : Mu} {s : List UInt8}
def constT (s : List UInt8) : Tok × Int := if (scan false s).e = 0 then (match scanT false s with | [t] => if t.kind = 1 then (t, 0) else (noTok, 7) | _ => (noTok, 7)) else (noTok, (scan false s).e)
theorem law36 (hs : s.length ≤ 200000) : (ev E).call 36 [LV.str s] μ = some (.ret (.ltup [.cv (constT s).1.cv, LV.int .i64 (constT s).2]) μ) := by
 refine ev_call ?_
 rw [nf36, law78 hs]
 simp only [callK_ret, getTup_t, opt_s, uncons_c, getInt_i, getStr_s, getBool_b, isNilL_n, gB_t, cond_true, cond_false, Bool.not_true, Bool.not_false, getSl_s, getSl_o, getOsl_o, getCv_c]
 unfold constT scanT
 by_cases he : (scan false s).e = 0
 ·obtain ⟨_, hl, hC⟩ := scan_ok he
  rw [decide_eq_true he, Bool.not_true, cond_false, if_pos he, if_pos he, hC]
  match ht : (scan false s).toks, hl with
  | [], hl =>
   have hG : G36_4 (ev E) (CV.view [CV.str s, CV.bool false, CV.sl (toksCV []), CV.sl (intsCV (scan false s).kept)]) ((scan false s).n : Int) 0 0 [] μ = some (XG36_4_0 7 0 0 [] μ) := by
    refine ev_seg ?_
    rw [nfG36_4, hl]; rfl
   rw [hG, opt_s, nfXG36_4_0]; rfl
  | [t], hl =>
   have hv : isNilA (LV.cv (CV.view [CV.str s, CV.bool false, CV.sl (toksCV [t]), CV.sl (intsCV (scan false s).kept)])) = some false := rfl
   have e1 : slAt (toksCV [t]) (0 : Int) = some t.cv := rfl
   have hG6 : G36_6 (ev E) (CV.view [CV.str s, CV.bool false, CV.sl (toksCV [t]), CV.sl (intsCV (scan false s).kept)]) 0 0 [] μ = some (XG36_6_0 0 t.kind t.type t.text μ) := by
    refine ev_seg ?_
    rw [nfG36_6, hv, opt_s, Bool.not_false, gB_t, getView_v, opt_s]
    simp only [callK_ret, getTup_t, opt_s, uncons_c, getInt_i, getStr_s, getBool_b, isNilL_n, gB_t, cond_true, cond_false, Bool.not_true, Bool.not_false, getSl_s, getSl_o, getOsl_o, getStr_c, getBool_c]
    rw [e1, opt_s, rd23_tok]
   by_cases hk : t.kind = 1
   ·have hG : G36_4 (ev E) (CV.view [CV.str s, CV.bool false, CV.sl (toksCV [t]), CV.sl (intsCV (scan false s).kept)]) ((scan false s).n : Int) 0 0 [] μ = some (XG36_4_0 0 t.kind t.type t.text μ) := by
     refine ev_seg ?_
     rw [nfG36_4, hl, show decide ((([t] : List Tok).length : Int) = 1) = true from rfl, Bool.not_true, cond_false, hv, opt_s, Bool.not_false, gB_t, getView_v, opt_s]
     simp only [callK_ret, getTup_t, opt_s, uncons_c, getInt_i, getStr_s, getBool_b, isNilL_n, gB_t, cond_true, cond_false, Bool.not_true, Bool.not_false, getSl_s, getSl_o, getOsl_o, getStr_c, getBool_c]
     rw [e1, opt_s, rd23_tok, decide_eq_true hk, Bool.not_true, cond_false, hG6, opt_s, nfXG36_6_0]
    rw [hG, opt_s, nfXG36_4_0]
    simp only [if_pos hk]
    rfl
   ·have hG : G36_4 (ev E) (CV.view [CV.str s, CV.bool false, CV.sl (toksCV [t]), CV.sl (intsCV (scan false s).kept)]) ((scan false s).n : Int) 0 0 [] μ = some (XG36_4_0 7 0 0 [] μ) := by
     refine ev_seg ?_
     rw [nfG36_4, hl, show decide ((([t] : List Tok).length : Int) = 1) = true from rfl, Bool.not_true, cond_false, hv, opt_s, Bool.not_false, gB_t, getView_v, opt_s]
     simp only [callK_ret, getTup_t, opt_s, uncons_c, getInt_i, getStr_s, getBool_b, isNilL_n, gB_t, cond_true, cond_false, Bool.not_true, Bool.not_false, getSl_s, getSl_o, getOsl_o, getStr_c, getBool_c]
     rw [e1, opt_s, rd23_tok, decide_eq_false hk]
     rfl
    rw [hG, opt_s, nfXG36_4_0]
    simp only [if_neg hk]
    rfl
  | a :: b :: r, hl =>
   have hG : G36_4 (ev E) (CV.view [CV.str s, CV.bool false, CV.sl (toksCV (a :: b :: r)), CV.sl (intsCV (scan false s).kept)]) ((scan false s).n : Int) 0 0 [] μ = some (XG36_4_0 7 0 0 [] μ) := by
    refine ev_seg ?_
    have : decide (((a :: b :: r).length : Int) = 1) = false := by simp; omega
    rw [nfG36_4, hl, this]; rfl
   rw [hG, opt_s, nfXG36_4_0]; rfl
 ·rw [decide_eq_false he, if_neg he]
  rfl
theorem law39 (hs : s.length ≤ 200000) : (ev E).call 39 [LV.str s] μ = some (.ret (.ltup [.cv (constT s).1.cv, LV.int .i64 (constT s).2]) μ) := by
 refine ev_call ?_
 rw [nf39, law18 hs]
 simp only [callK_ret, getTup_t, opt_s, uncons_c, getInt_i, getStr_s, getBool_b, isNilL_n, gB_t, cond_true, cond_false, Bool.not_true, Bool.not_false, getSl_s, getSl_o, getOsl_o]
 rw [slTok (l := []), opt_s]
 unfold constT
 by_cases he : (scan false s).e = 0
 ·rw [decide_eq_true he, Bool.not_true, cond_false, if_pos he]
  match ht : scanT false s with
  | [] =>
   have hG : G39_4 (ev E) (toksCV []) 0 0 [] μ = some (XG39_4_0 7 0 0 [] μ) := by
    refine ev_seg ?_
    rw [nfG39_4]; rfl
   rw [hG, opt_s, nfXG39_4_0]; rfl
  | [t] =>
   have e1 : slAt (toksCV [t]) (0 : Int) = some t.cv := rfl
   by_cases hk : t.kind = 1
   ·have hG : G39_4 (ev E) (toksCV [t]) 0 0 [] μ = some (XG39_4_0 0 t.kind t.type t.text μ) := by
     refine ev_seg ?_
     rw [nfG39_4, show decide (((toksCV [t]).length : Int) = 1) = true from rfl, Bool.not_true, cond_false, e1, opt_s, rd23_tok, decide_eq_true hk, Bool.not_true, cond_false, opt_s, rd23_tok]
    rw [hG, opt_s, nfXG39_4_0]
    simp only [if_pos hk]
    rfl
   ·have hG : G39_4 (ev E) (toksCV [t]) 0 0 [] μ = some (XG39_4_0 7 0 0 [] μ) := by
     refine ev_seg ?_
     rw [nfG39_4, show decide (((toksCV [t]).length : Int) = 1) = true from rfl, Bool.not_true, cond_false, e1, opt_s, rd23_tok, decide_eq_false hk]
     rfl
    rw [hG, opt_s, nfXG39_4_0]
    simp only [if_neg hk]
    rfl
  | a :: b :: r =>
   have hG : G39_4 (ev E) (toksCV (a :: b :: r)) 0 0 [] μ = some (XG39_4_0 7 0 0 [] μ) := by
    refine ev_seg ?_
    have : decide (((toksCV (a :: b :: r)).length : Int) = 1) = false := by simp [toksCV]; omega
    rw [nfG39_4, this]; rfl
   rw [hG, opt_s, nfXG39_4_0]; rfl
 ·rw [decide_eq_false he, if_neg he]
  rfl
def mid (s : List UInt8) : List UInt8 := (s.drop 1).take (s.length - 2)
theorem mid_chars (u : List UInt8) : mid (charsT u) = dbl u := by
 unfold mid
 rw [charsT_len]
 have : (charsT u).drop 1 = dbl u ++ [39] := rfl
 rw [this, show (dbl u).length + 2 - 2 = (dbl u).length from by omega, List.take_left' rfl]
theorem cutA_mid (u : List UInt8) (h : (charsT u).length ≤ 1000000) : cutA (charsT u) (1 : Int) (IntKind.wrap .i64 (((charsT u).length : Int) - (1 : Int))) = some (dbl u) := by
 have hl := charsT_len u
 rw [wrap64 (by omega) (by omega)]
 have e : ((charsT u).length : Int) - 1 = (((dbl u).length + 1 : Nat) : Int) := by omega
 rw [e]
 unfold cutA
 have : (charsT u).drop 1 = dbl u ++ [39] := rfl
 have h1 : decide ((1 : Int) ≤ ((dbl u).length : Int) + 1) = true := decide_eq_true (by omega)
 simp [this, hl, h1]
theorem law37 (hs : s.length ≤ 200000) : (ev E).call 37 [LV.str s] μ = some (.ret (.ltup (if checkC 6 s = 0 then [LV.str (Lib.replaceAll (mid s) [39, 39] [39]), LV.int .i64 0] else [LV.str [], LV.int .i64 3])) μ) := by
 refine ev_call ?_
 rw [nf37, law12 hs]
 simp only [callK_ret, getTup_t, opt_s, uncons_c, getInt_i, getStr_s, getBool_b, isNilL_n, gB_t, cond_true, cond_false, Bool.not_true, Bool.not_false, getSl_s, getSl_o, getOsl_o]
 by_cases h : checkC 6 s = 0
 ·obtain ⟨u, hu, rfl⟩ := check6 h
  have hd := dbl_len u
  have hG : G37_3 (ev E) (charsT u) μ = some (XG37_3_0 (Lib.replaceAll (mid (charsT u)) [39, 39] [39]) 0 μ) := by
   refine ev_seg ?_
   rw [nfG37_3, cutA_mid u (by omega), opt_s, law84 (by omega) (by simp) (by simp), mid_chars]
   rfl
  rw [decide_eq_true h, if_pos h, Bool.not_true, cond_false, hG, opt_s, nfXG37_3_0]
 ·rw [decide_eq_false h, if_neg h]
  rfl
theorem law38 (hs : s.length ≤ 200000) : (ev E).call 38 [LV.str s] μ = some (.ret (.ltup (if 60 < s.length then [LV.str [], LV.int .i64 8] else if isTextB s then [LV.str (charsT s), LV.int .i64 0] else [LV.str [], LV.int .i64 3])) μ) := by
 refine ev_call ?_
 rw [nf38, law85]
 simp only [callK_ret, getTup_t, opt_s, uncons_c, getInt_i, getStr_s, getBool_b, isNilL_n, gB_t, cond_true, cond_false, Bool.not_true, Bool.not_false, getSl_s, getSl_o, getOsl_o]
 by_cases h : 60 < s.length
 ·rw [decide_eq_true (by omega : (60 : Int) < (s.length : Int)), if_pos h]; rfl
 ·rw [decide_eq_false (by omega : ¬ (60 : Int) < (s.length : Int)), if_neg h, cond_false, law86 hs, callK_ret]
  cases isTextB s with
  | false => rfl
  | true =>
   rw [Bool.not_true, cond_false, rd23_tok, if_pos rfl]
theorem loop40 (s : List UInt8) (hs : s.length ≤ 200000) : ∀ (r p acc : List UInt8), s = p ++ (dbl r ++ [39]) → acc.length ≤ p.length → L40_5 (ev E) s acc (p.length : Int) μ = some (XL40_5_0 (acc ++ r) μ)
 | [], p, acc, h, ha => by
  refine ev_loop ?_
  have hl : s.length = p.length + 1 := by rw [h]; simp [dbl]
  rw [nfL40_5, wrap64 (by omega) (by omega), decide_eq_false (by omega), cond_false, List.append_nil]
 | c :: r, p, acc, h, ha => by
  refine ev_loop ?_
  have hd := dbl_len (c :: r)
  have hl : s.length = p.length + (dbl (c :: r)).length + 1 := by rw [h]; simp; omega
  have h1 : 1 ≤ (dbl (c :: r)).length := by unfold dbl; split <;> simp
  obtain ⟨q, hq⟩ : ∃ q, dbl (c :: r) ++ [39] = c :: q := by
   unfold dbl
   split
   ·rename_i e; subst e; exact ⟨_, rfl⟩
   ·exact ⟨_, rfl⟩
  have hlt : p.length < s.length := by omega
  have hg : s[p.length]? = some c := by rw [h, hq, List.getElem?_append_right (Nat.le_refl _)]; simp
  have hg' : s[p.length] = c := by rw [List.getElem?_eq_getElem hlt] at hg; exact Option.some.inj hg
  rw [nfL40_5, wrap64 (x := (s.length : Int) - 1) (by omega) (by omega), decide_eq_true (by omega), cond_true, wsucc (by omega), cut1 hlt, opt_s, small_le (by simp; omega), gB_t, strAt_lt hlt, opt_s, hg',
   show decide ((c.toNat : Int) = 39) = decide (c = 39) from u8_eq (k := 39) (by omega)]
  by_cases hc : c = 39
  ·subst hc
   rw [decide_eq_true rfl, cond_true, wsucc (by omega)]
   have e2 : s = (p ++ [39, 39]) ++ (dbl r ++ [39]) := by rw [h, dbl, if_pos rfl]; simp
   have := loop40 s hs r (p ++ [39, 39]) (acc ++ [39]) e2 (by simp; omega)
   have e3 : (p ++ [39, 39]).length = p.length + 1 + 1 := by simp
   rw [e3] at this
   rw [this]
   simp
  ·rw [decide_eq_false hc, cond_false]
   have e2 : s = (p ++ [c]) ++ (dbl r ++ [39]) := by rw [h, dbl, if_neg hc]; simp
   have := loop40 s hs r (p ++ [c]) (acc ++ [c]) e2 (by simp; omega)
   have e3 : (p ++ [c]).length = p.length + 1 := by simp
   rw [e3] at this
   rw [this]
   simp
theorem law40 (hs : s.length ≤ 200000) : (ev E).call 40 [LV.str s] μ = some (.ret (.ltup (if checkC 6 s = 0 then [LV.str (Lib.replaceAll (mid s) [39, 39] [39]), LV.bool true] else [LV.str [], LV.bool false])) μ) := by
 refine ev_call ?_
 rw [nf40, law13 hs, ← check_eq]
 simp only [callK_ret, getTup_t, opt_s, uncons_c, getInt_i, getStr_s, getBool_b, isNilL_n, gB_t, cond_true, cond_false, Bool.not_true, Bool.not_false, getSl_s, getSl_o, getOsl_o]
 by_cases h : checkC 6 s = 0
 ·obtain ⟨u, hu, rfl⟩ := check6 h
  have hG : G40_3 (ev E) (charsT u) μ = some (XG40_3_0 (Lib.replaceAll (mid (charsT u)) [39, 39] [39]) true μ) := by
   refine ev_seg ?_
   have := loop40 (μ := μ) (charsT u) hs u [39] [] rfl (by simp)
   have e1 : (([39] : List UInt8).length : Int) = 1 := rfl
   rw [e1, List.nil_append] at this
   rw [nfG40_3, this, opt_s, nfXL40_5_0, mid_chars, und_dbl]
  rw [decide_eq_true h, if_pos h, Bool.not_true, cond_false, hG, opt_s, nfXG40_3_0]
 ·rw [decide_eq_false h, if_neg h]
  rfl
end
end Go.Abs

set_option linter.unusedVariables false
set_option linter.unusedSimpArgs false
set_option maxRecDepth 100000
namespace Go.Abs
open Go Go.Proofs
section
variable {a b c : List UInt8}
theorem seg10_18 (hc : c.length ≤ 60) (ht : isTextB c = true) : G10_18 (ev E) c (charsT c) 0 [] = some (XG10_18_0 true []) := by
 refine ev_seg ?_
 have hd := dbl_len c
 have hl := charsT_len c
 rw [nfG10_18, law37 (by omega), if_pos (check_chars ht hc), mid_chars, und_dbl]
 simp only [callK_ret, getTup_t, opt_s, uncons_c, getInt_i, getStr_s, getBool_b, isNilL_n, gB_t, cond_true, cond_false, Bool.not_true, Bool.not_false, getSl_s, getSl_o, getOsl_o, decide_true]
 rw [law42 (by omega)]
 simp only [callK_ret, getTup_t, opt_s, uncons_c, getInt_i, getStr_s, getBool_b, isNilL_n, gB_t, cond_true, cond_false, Bool.not_true, Bool.not_false, getSl_s, getSl_o, getOsl_o, decide_true]
theorem seg10_16 (hc : c.length ≤ 60) : G10_16 (ev E) c (if isTextB c then charsT c else []) (if isTextB c then 0 else 3) [] = some (XG10_16_0 true []) := by
 refine ev_seg ?_
 rw [nfG10_16, law41 (by omega)]
 simp only [callK_ret, getTup_t, opt_s, uncons_c, getInt_i, getStr_s, getBool_b, isNilL_n, gB_t, cond_true, cond_false, Bool.not_true, Bool.not_false, getSl_s, getSl_o, getOsl_o]
 rw [decide_eq_false (by omega : ¬ (60 : Int) < (c.length : Int)), Bool.not_false, Bool.true_and]
 cases ht : isTextB c with
 | false => rfl
 | true =>
  simp only [if_true]
  rw [seg10_18 hc ht, opt_s, nfXG10_18_0]
  rfl
def constC (c : List UInt8) : List UInt8 × Int := if 60 < c.length then ([], 8) else if isTextB c then (charsT c, 0) else ([], 3)
theorem seg10_14 : G10_14 (ev E) c (constC c).1 (constC c).2 [] = some (XG10_14_0 true []) := by
 refine ev_seg ?_
 rw [nfG10_14]
 unfold constC
 by_cases h : 60 < c.length
 ·rw [decide_eq_true (by omega : (60 : Int) < (c.length : Int)), if_pos h]; rfl
 ·rw [decide_eq_false (by omega : ¬ (60 : Int) < (c.length : Int)), if_neg h, cond_false]
  have := seg10_16 (c := c) (by omega)
  have e1 : (if isTextB c = true then (charsT c, (0 : Int)) else ([], 3)).1 = (if isTextB c = true then charsT c else []) := by split <;> rfl
  have e2 : (if isTextB c = true then (charsT c, (0 : Int)) else ([], 3)).2 = (if isTextB c = true then 0 else 3) := by split <;> rfl
  rw [e1, e2, this, opt_s, nfXG10_16_0]
theorem law10 : (ev E).call 10 [LV.str a, LV.str b, LV.str c] [] = some (.ret (LV.bool true) []) := by
 refine ev_call ?_
 rw [nf10, law11]
 simp only [callK_ret, getTup_t, opt_s, uncons_c, getInt_i, getStr_s, getBool_b, isNilL_n, gB_t, cond_true, cond_false, Bool.not_true, Bool.not_false, getSl_s, getSl_o, getOsl_o]
 have hG : G10_3 (ev E) a b c [] = some (XG10_3_0 true []) := by
  refine ev_seg ?_
  rw [nfG10_3, law16]
  simp only [callK_ret, getTup_t, opt_s, uncons_c, getInt_i, getStr_s, getBool_b, isNilL_n, gB_t, cond_true, cond_false, Bool.not_true, Bool.not_false, getSl_s, getSl_o, getOsl_o]
  cases hb : brief a with
  | false => rfl
  | true =>
   have hl := brief_len hb
   rw [Bool.not_true, cond_false]
   by_cases h1 : 200 < b.length
   ·rw [decide_eq_true (by omega : (200 : Int) < (b.length : Int))]; rfl
   ·rw [decide_eq_false (by omega : ¬ (200 : Int) < (b.length : Int)), cond_false]
    by_cases h2 : 200 < c.length
    ·rw [decide_eq_true (by omega : (200 : Int) < (c.length : Int))]; rfl
    ·rw [decide_eq_false (by omega : ¬ (200 : Int) < (c.length : Int)), cond_false]
     have hG5 : G10_5 (ev E) a b c [] = some (XG10_5_0 true []) := by
      refine ev_seg ?_
      rw [nfG10_5, law36 (by omega)]
      simp only [callK_ret, getTup_t, opt_s, uncons_c, getInt_i, getStr_s, getBool_b, isNilL_n, gB_t, cond_true, cond_false, Bool.not_true, Bool.not_false, getSl_s, getSl_o, getOsl_o, rd23_tok]
      rw [law37 (by omega)]
      have hsp : ∀ (x : Bool), x = decide (checkC 6 b = 0) → G10_11 (ev E) b c (if x then Lib.replaceAll (mid b) [39, 39] [39] else []) (if x then 0 else 3) (constC c).1 (constC c).2 [] = some (XG10_11_0 true []) := by
       intro x hx
       refine ev_seg ?_
       rw [nfG10_11, law40 (by omega)]
       simp only [callK_ret, getTup_t, opt_s, uncons_c, getInt_i, getStr_s, getBool_b, isNilL_n, gB_t, cond_true, cond_false, Bool.not_true, Bool.not_false, getSl_s, getSl_o, getOsl_o]
       have h14 := seg10_14 (c := c)
       by_cases hk : checkC 6 b = 0
       ·rw [if_pos hk]
        have : x = true := by rw [hx]; exact decide_eq_true hk
        subst this
        simp only [callK_ret, getTup_t, opt_s, uncons_c, getInt_i, getStr_s, getBool_b, isNilL_n, gB_t, cond_true, cond_false, Bool.not_true, Bool.not_false, getSl_s, getSl_o, getOsl_o, if_true, decide_true]
        rw [h14, opt_s, nfXG10_14_0]
       ·rw [if_neg hk]
        have : x = false := by rw [hx]; exact decide_eq_false hk
        subst this
        simp only [callK_ret, getTup_t, opt_s, uncons_c, getInt_i, getStr_s, getBool_b, isNilL_n, gB_t, cond_true, cond_false, Bool.not_true, Bool.not_false, getSl_s, getSl_o, getOsl_o, Bool.not_false, Bool.false_eq_true, if_false, decide_true]
        rw [h14, opt_s, nfXG10_14_0]
      have h3 : (if checkC 6 b = 0 then [LV.str (Lib.replaceAll (mid b) [39, 39] [39]), LV.int .i64 0] else [LV.str [], LV.int .i64 3]) =
        [LV.str (if decide (checkC 6 b = 0) then Lib.replaceAll (mid b) [39, 39] [39] else []), LV.int .i64 (if decide (checkC 6 b = 0) then 0 else 3)] := by
       by_cases hk : checkC 6 b = 0
       ·rw [if_pos hk, decide_eq_true hk]; rfl
       ·rw [if_neg hk, decide_eq_false hk]; rfl
      rw [h3]
      simp only [callK_ret, getTup_t, opt_s, uncons_c, getInt_i, getStr_s, getBool_b, isNilL_n, gB_t, cond_true, cond_false, Bool.not_true, Bool.not_false, getSl_s, getSl_o, getOsl_o]
      rw [law38 (by omega)]
      have h4 : (if 60 < c.length then [LV.str [], LV.int .i64 8] else if isTextB c = true then [LV.str (charsT c), LV.int .i64 0] else [LV.str [], LV.int .i64 3]) = [LV.str (constC c).1, LV.int .i64 (constC c).2] := by
       unfold constC
       split
       ·rfl
       ·split <;> rfl
      rw [h4]
      simp only [callK_ret, getTup_t, opt_s, uncons_c, getInt_i, getStr_s, getBool_b, isNilL_n, gB_t, cond_true, cond_false, Bool.not_true, Bool.not_false, getSl_s, getSl_o, getOsl_o]
      rw [law39 (by omega)]
      simp only [callK_ret, getTup_t, opt_s, uncons_c, getInt_i, getStr_s, getBool_b, isNilL_n, gB_t, cond_true, cond_false, Bool.not_true, Bool.not_false, getSl_s, getSl_o, getOsl_o, rd23_tok]
      rw [hsp _ rfl]
      simp only [decide_true, Bool.and_self, Bool.not_true, cond_false, opt_s]
      exact nfXG10_11_0 _ _ _
     rw [hG5, opt_s, nfXG10_5_0]
 rw [hG, opt_s, nfXG10_3_0]
end
end Go.Abs

set_option linter.unusedVariables false
set_option linter.unusedSimpArgs false
set_option maxRecDepth 100000
set_option maxHeartbeats 1000000
namespace Go.Abs
open Go Go.Proofs Go.RowKit
theorem sizeBuilder : (Tryz.prog.info? 103).map (·.size) = some 2 := by kernel_rfl
theorem liesBuilder : liesAt Tryz.prog Tryz.prog.depth 103 (2 / Tryz.prog.cellsOf 103) 0 103 1 = true := by kernel_rfl
theorem copy_used (b : Nat) (w : World) (h0 : w.cell? ⟨b, 0, none⟩ = some (.pointer (some ⟨b, 0, none⟩))) :
  Calls Tryz.prog 116 #[.pointer (some ⟨b, 0, none⟩)] w fun e w' => e = .returned (.tuple #[]) ∧ w' = w := by
 obtain ⟨j, hj, _⟩ := Option.map_eq_some_iff.1 sizeBuilder
 go_enter Tryz.func116, Tryz.ntmps116
 go_wp2
 rw [Lib.run_neq_ptr_same w _ Tryz.underlying100 hj]
 go_wp2
 go_end0
 exact ⟨rfl, rfl⟩
theorem copy_fresh (b : Nat) (w : World) (h0 : w.cell? ⟨b, 0, none⟩ = some (.pointer none)) (hsh : w.shape? b = some (103, 2)) (hfz : w.frozen? ⟨b, 0, none⟩ = false) :
  Calls Tryz.prog 116 #[.pointer (some ⟨b, 0, none⟩)] w fun e w' => e = .returned (.tuple #[]) ∧ w' = w.setCell ⟨b, 0, none⟩ (.pointer (some ⟨b, 0, none⟩)) := by
 obtain ⟨j, hj, hjs⟩ := Option.map_eq_some_iff.1 sizeBuilder
 go_enter Tryz.func116, Tryz.ntmps116
 go_wp2
 rw [Lib.run_to_unsafe w ⟨b, 0, none⟩ Tryz.underlying100 Tryz.underlying159 hj (by rw [hjs]; decide) hsh (Nat.zero_lt_succ 1)]
 simp only [Result.andThen]
 rw [Oper.upon_value]
 go_wp2
 rw [run_callFunc_extern Tryz.func146 (by kernel_rfl) (by kernel_rfl) (by kernel_rfl) (e := Extern.AbiNoEscape.same) (by kernel_rfl)]
 rw [Lib.run_noEscape]
 simp only [Result.andThen]
 rw [Oper.upon_value]
 go_wp2
 rw [Lib.run_from_unsafe w ⟨b, 0, none⟩ Tryz.underlying159 Tryz.underlying100 hj hsh liesBuilder]
 simp only [Result.andThen]
 rw [Oper.upon_value]
 go_wp2
 go_end0
 exact ⟨rfl, rfl⟩
theorem store_ptr {b : Nat} {w : World} {p : Option Addr} {v : Value} (h0 : w.cell? ⟨b, 0, none⟩ = some v) (hfz : w.frozen? ⟨b, 0, none⟩ = false) : (storeVar 100 ⟨b, 0, none⟩ (.pointer p)).run Tryz.prog w = .ok () (w.setCell ⟨b, 0, none⟩ (.pointer p)) := by
 simp [storeVar, Tryz.sizeOf100, storeCells, Value.cells, run_store_pointer, stored, h0, hfz, Addr.add]
section
variable {W0 w : World} {G : Gh} {L : Nat} {μ : Mu}
theorem Rel.ret {args : List LV} {cargs : Array Value} {v : LV} {cv : Value} (R : Rel G L (argS args) μ cargs w) (hv : LVR G w L 0 v cv) (hno : ∀ b, ¬ Owns v cv b) :
  Rel G L (argS [v]) μ #[cv] w ∧ (∀ b, TouchS G w (argS [v]) μ #[cv] b → TouchS G w (argS args) μ cargs b) := by
 have hob : ∀ lev i, obAt (μ ++ [(argS [v]).lam]) lev i = obAt (μ ++ [(argS args).lam]) lev i := fun _ _ => rfl
 have hown : ∀ q b, OwnsAt G w (argS [v]).fr #[cv] (μ ++ [(argS [v]).lam]) q b → OwnsAt G w (argS args).fr cargs (μ ++ [(argS args).lam]) q b := by
  intro q b h
  cases q with
  | fr t =>
   exfalso
   simp only [OwnsAt, argS_fr] at h
   cases t with
   | zero => exact hno b h
   | succ t => simp [Owns] at h
  | ob lev i k => exact h
 refine ⟨⟨R.lev, fun t => ?_, R.lam, R.mu, R.inj, fun q q' b h h' => R.own q q' b (hown q b h) (hown q' b h'), fun q b lev i h h' => R.apart q b lev i (hown q b h) h', R.nlt, R.nL, R.ngt⟩, fun b h => ?_⟩
 ·rw [argS_fr]
  cases t with
  | zero => exact hv
  | succ t => simp [LVR, VR]
 ·rcases h with ⟨q, h⟩ | h
  ·exact .inl ⟨q, hown q b h⟩
  ·exact .inr h
structure Bld (G : Gh) (L : Nat) (μ : Mu) (w : World) (lev i : Nat) (a b : LV) (cur : Array Value) (fz : Nat × Nat) : Prop where
 lt : lev < L
 live : muOb μ lev i = .cells [a, b]
 heap : w.heap[G.β lev i]? = some (.cells cur 103 fz)
 size : cur.size = 2
 unf : Unfrozen cur fz
 O : G.O (G.β lev i) = 0
 va : LVR (G.below lev) w lev 0 a (cur.getD 0 undef)
 vb : LVR (G.below lev) w lev 0 b (cur.getD 1 undef)
theorem bld_of {args : List LV} {cargs : Array Value} {lev i : Nat} {a b : LV} (R : Rel G L (argS args) μ cargs w) (ha : args[0]? = some (.cv (.tref lev i 103 2))) (hob : muOb μ lev i = .cells [a, b]) :
  ∃ cur fz, Bld G L μ w lev i a b cur fz ∧ i < G.n lev ∧ cargs.getD 0 undef = .pointer (some ⟨G.β lev i, 0, none⟩) := by
 have h0 := R.fr 0
 rw [argS_fr, ha] at h0
 simp only [Option.getD_some, LVR, VR] at h0
 obtain ⟨h1, h2, cur, fz, h3, h4⟩ := h0
 have hlt : lev < L := by
  rcases Nat.lt_trichotomy lev L with h | h | h
  ·exact h
  ·subst h
   have := R.nL
   simp [argS] at this
   omega
  ·have := R.ngt lev h
   omega
 have hm := R.mu lev i hlt
 rw [hob] at hm
 simp only [ObR] at hm
 obtain ⟨cur2, e2, fz2, k1, k2, k3, k4, k5⟩ := hm
 rw [h3] at k1
 obtain ⟨rfl, rfl, rfl⟩ := (Obj.cells.injEq ..).mp (Option.some.inj k1)
 exact ⟨cur, fz, ⟨hlt, hob, h3, h4, k2, k3, k5 0 a rfl, k5 1 b rfl⟩, h1, h2⟩
theorem args_one {cargs : Array Value} {v : Value} (hs : cargs.size = 1) (hv : cargs.getD 0 undef = v) : cargs = #[v] := by
 apply Array.ext
 ·simpa using hs
 ·intro j h1 h2
  have : j = 0 := by omega
  subst this
  rw [Array.getD_eq_getD_getElem?, Array.getElem?_eq_getElem h1] at hv
  simpa using hv
theorem ob_top {lev i : Nat} {o : Ob} {args : List LV} (hlt : lev < μ.length) (h : muOb μ lev i = o) : obAt (μ ++ [(argS args).lam]) lev i = o := by
 rw [← h]
 exact muOb_lt hlt
theorem cell0 {b : Nat} {cur : Array Value} {e : TypeId} {fz : Nat × Nat} {k : Nat} (h : w.heap[b]? = some (.cells cur e fz)) (hk : k < cur.size) : w.cell? ⟨b, k, none⟩ = some (cur.getD k undef) := by
 unfold World.cell?
 simp only [h]
 simp [Array.getD_eq_getD_getElem?, hk]
theorem frozen0 {b : Nat} {cur : Array Value} {e : TypeId} {fz : Nat × Nat} {k : Nat} (h : w.heap[b]? = some (.cells cur e fz)) (hk : k < cur.size) (hu : Unfrozen cur fz) : w.frozen? ⟨b, k, none⟩ = false := by
 have := hu k hk
 unfold World.frozen?
 simp only [h]
 simp
 omega
theorem ok_copyCheck {args : List LV} {out : Out} (h : pCopyCheck 103 args μ = some out) : Meets E.P W0 116 args μ out := by
 unfold pCopyCheck at h
 obtain ⟨q, hq, h2⟩ := opt_inv h
 clear h
 obtain ⟨u, hu, h⟩ := opt_inv h2
 clear h2
 have hargs : args = [q.1] := by rw [uncons_inv hq, isNilL_inv hu]
 rw [hargs]
 clear hargs hq hu
 obtain ⟨x, y⟩ := q
 simp only at h ⊢
 split at h <;> try (cases h; done)
 rename_i lev i t n
 obtain ⟨hg, h2⟩ := guard_inv h
 clear h
 rw [Bool.and_eq_true] at hg
 have ht := Nat.eq_of_beq_eq_true hg.1
 have hn := Nat.eq_of_beq_eq_true hg.2
 subst ht hn
 refine ⟨has_body Tryz.func116 rfl (by kernel_rfl), fun G w cargs hs R hkn => ?_⟩
 split at h2 <;> try (cases h2; done)
 rename_i a b hob
 obtain ⟨cur, fz, B, hin, hc0⟩ := bld_of R rfl hob
 have hca := args_one (by simpa using hs) hc0
 have hlt : lev < μ.length := B.lt
 have hcell := cell0 (w := w) B.heap (k := 0) (by rw [B.size]; omega)
 split at h2 <;> try (cases h2; done)
 ·
  injection h2 with h
  subst h
  have hva := B.va
  simp only [LVR, VR] at hva
  rw [hva] at hcell
  have hfr := frozen0 (w := w) B.heap (k := 0) (by rw [B.size]; omega) B.unf
  have hsh : w.shape? (G.β lev i) = some (103, 2) := by
   unfold World.shape?
   simp only [B.heap, B.size]
  have hset : muSet μ lev i (.cells [.cv (.ref lev i 0), b]) ++ [(argS [LV.cv (CV.tref lev i 103 2)]).lam] = muSet (μ ++ [(argS [LV.cv (CV.tref lev i 103 2)]).lam]) lev i (.cells [.cv (.ref lev i 0), b]) := (muSet_out hlt).symm
  obtain ⟨w', hrun, R2, E2⟩ := R.writeOb (P := Tryz.prog) (t := 100) (s1 := argS [LV.cv (CV.tref lev i 103 2)]) (μ1 := muSet μ lev i (.cells [.cv (.ref lev i 0), b])) (lev := lev) (i := i) (off := 0) (v := .cv (.ref lev i 0)) (cv := .pointer (some ⟨G.β lev i, 0, none⟩)) (o' := .cells [.cv (.ref lev i 0), b])
   (Ext.refl G w fun b h => h) (ob_top hlt hob) (by kernel_rfl)
   ⟨fun e => absurd e (Nat.ne_of_lt hlt), fun _ => by simp only [LVR, VR, Gh.below]; exact ⟨by simpa using hin, trivial⟩⟩
   (fun b hb => by simp [Owns] at hb) rfl rfl rfl muSet_len.1 hset
  have hw : w' = w.setCell ⟨G.β lev i, 0, none⟩ (.pointer (some ⟨G.β lev i, 0, none⟩)) := by
   have h1 := store_ptr (p := some ⟨G.β lev i, 0, none⟩) hcell hfr
   rw [hrun] at h1
   injection h1
  rw [hca]
  refine (copy_fresh (G.β lev i) w hcell hsh hfr).mono fun e w2 ⟨h1, h2⟩ => ?_
  subst h1
  rw [← hw] at h2
  subst h2
  obtain ⟨R3, hT⟩ := R2.ret (v := .ltup []) (cv := .tuple #[]) ⟨#[], rfl, rfl⟩ (fun b h => by simp [Owns] at h)
  exact ⟨G.O, R3, hca ▸ E2.weaken (fun _ h => h) fun b hb => hT b hb⟩
 ·
  rename_i l j
  obtain ⟨hg2, h3⟩ := guard_inv h2
  rw [Bool.and_eq_true] at hg2
  have hl := Nat.eq_of_beq_eq_true hg2.1
  have hj := Nat.eq_of_beq_eq_true hg2.2
  subst hl hj
  injection h3 with h
  subst h
  have hva := B.va
  simp only [LVR, VR] at hva
  rw [hva.2] at hcell
  rw [hca]
  refine (copy_used (G.β l j) w hcell).mono fun e w2 ⟨h1, h2⟩ => ?_
  subst h1 h2
  obtain ⟨R3, hT⟩ := R.ret (v := .ltup []) (cv := .tuple #[]) ⟨#[], rfl, rfl⟩ (fun b h => by simp [Owns] at h)
  exact ⟨G.O, R3, Ext.refl G _ (hca ▸ hT)⟩
end
theorem string_full {b g cap : Nat} {l : List UInt8} {p : Value} {fzb : Nat × Nat} {cur : Array Value} {w : World} (hbk : w.heap[b]? = some (.cells #[p, .slice (some ⟨g, 0, none⟩) l.length cap] 103 fzb)) (h0 : l ≠ []) (hg : w.heap[g]? = some (.cells cur 5 (0, 0)))
  (hnc : l.length ≤ cap) (hcm : cap ≤ maxLen) (hsz : l.length ≤ cur.size) (hcells : ∀ (j : Nat) x, l[j]? = some x → w.cell? ⟨g, j, none⟩ = some (.int .u8 x.toNat)) :
  Calls Tryz.prog 77 #[.pointer (some ⟨b, 0, none⟩)] w fun e w' => e = .returned (.string ⟨l.toArray⟩) ∧ w' = w.drew.freeze ⟨g, 0, none⟩ l.length := by
 have hl0 : l.length ≠ 0 := by simpa using h0
 have c1 : w.drew.cell? ⟨b, 1, none⟩ = some (.slice (some ⟨g, 0, none⟩) l.length cap) := by
  have : w.drew.heap[b]? = some (.cells #[p, .slice (some ⟨g, 0, none⟩) l.length cap] 103 fzb) := hbk
  rw [Lib.cell_of_heap this]; rfl
 have hSD : (Builtin.unsafeSliceData_ #[101] 137 #[.slice (some ⟨g, 0, none⟩) l.length cap]).run Tryz.prog w.drew = .ok (.pointer (some ⟨g, 0, none⟩)) w.drew :=
  Lib.run_unsafeSliceData_row _ _ _ _ _ _ (by omega)
 have hUS : (Builtin.unsafeString_ #[137, 3] 9 #[.pointer (some ⟨g, 0, none⟩), .int .i64 l.length]).run Tryz.prog w.drew = .ok (.string ⟨l.toArray⟩) (w.drew.freeze ⟨g, 0, none⟩ l.length) := by
  refine Lib.run_unsafeString_row w.drew 137 3 9 5 Tryz.underlying137 Tryz.Builder_Extra_169.cellsByte g cur.size (by have hg' : w.drew.heap[g]? = some (.cells cur 5 (0, 0)) := hg; simp [World.shape?, hg']) l h0 (by omega) (by unfold maxLen at hcm; omega) ?_
  intro j x hx
  have := hcells j x hx
  by_cases hj : j = 0
  ·subst hj; simpa [Addr.add] using this
  ·simpa [Addr.add, hj] using this
 go_enter Tryz.func77, Tryz.ntmps77
 go_wp2
 go_region
 all_goals (go_wp2; go_ret; exact ⟨rfl, rfl⟩)
theorem string_nil {b : Nat} {p : Value} {fzb : Nat × Nat} {w : World} (hbk : w.heap[b]? = some (.cells #[p, .slice none 0 0] 103 fzb)) :
  Calls Tryz.prog 77 #[.pointer (some ⟨b, 0, none⟩)] w fun e w' => e = .returned (.string ⟨#[]⟩) ∧ w' = w.drew := by
 have hUS : ∀ W q, (Builtin.unsafeString_ #[137, 3] 9 #[.pointer q, .int .i64 0]).run Tryz.prog W = .ok (.string .empty) W := fun W q => Lib.run_unsafeString_none W _ _ _ q
 have c1 : w.drew.cell? ⟨b, 1, none⟩ = some (.slice none 0 0) := by
  have : w.drew.heap[b]? = some (.cells #[p, .slice none 0 0] 103 fzb) := hbk
  rw [Lib.cell_of_heap this]; rfl
 have hSD : (Builtin.unsafeSliceData_ #[101] 137 #[.slice none 0 0]).run Tryz.prog w.drew = .ok (.pointer none) w.drew := rfl
 go_enter Tryz.func77, Tryz.ntmps77
 go_wp2
 go_region
 all_goals (go_wp2; go_ret; exact ⟨rfl, rfl⟩)
theorem string_zero {b g : Nat} {p : Value} {fzb : Nat × Nat} {cur : Array Value} {e : TypeId} {w : World} (hbk : w.heap[b]? = some (.cells #[p, .slice (some ⟨g, 0, none⟩) 0 0] 103 fzb)) (hg : w.heap[g]? = some (.cells cur e (0, 0))) :
  Calls Tryz.prog 77 #[.pointer (some ⟨b, 0, none⟩)] w fun e w' => e = .returned (.string ⟨#[]⟩) ∧ w' = w.drew.alloc (.view ⟨g, 0, none⟩ 5) := by
 have hUS : ∀ W q, (Builtin.unsafeString_ #[137, 3] 9 #[.pointer q, .int .i64 0]).run Tryz.prog W = .ok (.string .empty) W := fun W q => Lib.run_unsafeString_none W _ _ _ q
 have hlt : b < w.heap.size := by
  rcases Nat.lt_or_ge b w.heap.size with h' | h'
  ·exact h'
  ·simp [Array.getElem?_eq_none h'] at hbk
 have c1 : w.drew.cell? ⟨b, 1, none⟩ = some (.slice (some ⟨g, 0, none⟩) 0 0) := by
  have : w.drew.heap[b]? = some (.cells #[p, .slice (some ⟨g, 0, none⟩) 0 0] 103 fzb) := hbk
  rw [Lib.cell_of_heap this]; rfl
 have hSD : (Builtin.unsafeSliceData_ #[101] 137 #[.slice (some ⟨g, 0, none⟩) 0 0]).run Tryz.prog w.drew = .ok (.pointer (some ⟨w.drew.heap.size, 0, none⟩)) (w.drew.alloc (.view ⟨g, 0, none⟩ 5)) :=
  Lib.run_unsafeSliceData_zero w.drew _ _ 5 Tryz.underlying137 ⟨g, 0, none⟩ 0 (e, cur.size) (by have hg' : w.drew.heap[g]? = some (.cells cur e (0, 0)) := hg; simp [World.shape?, hg'])
 have c2 : (w.drew.alloc (.view ⟨g, 0, none⟩ 5)).cell? ⟨b, 1, none⟩ = some (.slice (some ⟨g, 0, none⟩) 0 0) := by
  have : (w.drew.alloc (.view ⟨g, 0, none⟩ 5)).heap[b]? = _ := (Lib.alloc_old w.drew _ b hlt).trans hbk
  rw [Lib.cell_of_heap this]; rfl
 have c3 : (w.alloc (.view ⟨g, 0, none⟩ 5)).drew.cell? ⟨b, 1, none⟩ = some (.slice (some ⟨g, 0, none⟩) 0 0) := c2
 have c0 : w.cell? ⟨b, 1, none⟩ = some (.slice (some ⟨g, 0, none⟩) 0 0) := c1
 go_enter Tryz.func77, Tryz.ntmps77
 go_wp2
 go_region
 all_goals (go_wp2; go_ret; exact ⟨rfl, rfl⟩)
section
variable {W0 w : World} {G : Gh} {L : Nat} {μ : Mu}
theorem ret_world {args : List LV} {cargs : Array Value} {μ' : Mu} {G' : Gh} {w' : World} {T : Nat → Prop} {v : LV} {cv : Value} (R1 : Rel G L (argS args) μ' cargs w) (hT1 : ∀ b, TouchS G w (argS args) μ' cargs b → T b) (hle : Le G w G' w')
  (hfr : ∀ b, TouchS G w (argS args) μ' cargs b → w'.heap[b]? = w.heap[b]? ∧ G'.O b = G.O b) (hG : G' = G.withO G'.O) (ho : w'.os = w.os) (ht : w'.tape = w.tape) (hu : w'.output = w.output) (hs : w.heap.size ≤ w'.heap.size)
  (hkeep : ∀ b, b < w.heap.size → ¬ T b → w'.heap[b]? = w.heap[b]? ∧ G'.O b = G.O b) (hv : LVR G' w' L 0 v cv) (hno : ∀ b, ¬ Owns v cv b) : RetR L T G w (.ret v μ') (.returned cv) w' := by
 have hβ : ∀ lev i, G'.β lev i = G.β lev i ∧ G'.sz lev i = G.sz lev i := by intro lev i; rw [hG]; exact ⟨rfl, rfl⟩
 have hn : G'.n = G.n := by rw [hG]; rfl
 obtain ⟨R2, hO2⟩ := R1.frame hle hfr (fun lev i _ => hβ lev i) hn
 obtain ⟨R3, hT3⟩ := R2.ret hv hno
 have htouch : ∀ b, TouchS G' w' (argS [v]) μ' #[cv] b → T b := by
  intro b hb
  rcases hT3 b hb with ⟨q, h⟩ | ⟨lev, i, h, e⟩
  ·exact hT1 b (.inl ⟨q, hO2 q b h⟩)
  ·exact hT1 b (.inr ⟨lev, i, h, by rw [← (hβ lev i).1]; exact e⟩)
 refine ⟨G'.O, ?_, ?_⟩
 ·rw [← hG]; exact R3
 ·rw [← hG]
  exact ⟨hle, ho, ht, hu, hs, hkeep, fun b hb => .inl (htouch b hb), fun l _ => ⟨fun i => hβ l i, by rw [hn]⟩⟩
theorem freeze_heap {g n : Nat} {cur : Array Value} {e : TypeId} {fz : Nat × Nat} (hg : w.heap[g]? = some (.cells cur e fz)) :
  (∀ b, b ≠ g → (w.drew.freeze ⟨g, 0, none⟩ n).heap[b]? = w.heap[b]?) ∧ (∃ fz', (w.drew.freeze ⟨g, 0, none⟩ n).heap[g]? = some (.cells cur e fz')) ∧ (w.drew.freeze ⟨g, 0, none⟩ n).os = w.os ∧ (w.drew.freeze ⟨g, 0, none⟩ n).tape = w.tape ∧ (w.drew.freeze ⟨g, 0, none⟩ n).output = w.output ∧ (w.drew.freeze ⟨g, 0, none⟩ n).heap.size = w.heap.size := by
 have hg' : w.drew.heap[g]? = some (.cells cur e fz) := hg
 unfold World.freeze
 split
 ·exact ⟨fun b _ => rfl, ⟨fz, hg'⟩, rfl, rfl, rfl, rfl⟩
 ·refine ⟨fun b hb => ?_, ?_, rfl, rfl, rfl, by simp⟩
  ·simp only [Array.getElem?_modify]
   rw [if_neg (fun e => hb e.symm)]
   rfl
  ·simp only [Array.getElem?_modify, if_true, hg', Option.map_some]
   exact ⟨_, rfl⟩
def bytesV (l : List UInt8) : List CV := l.map fun (b : UInt8) => CV.v (.int .u8 (b.toNat : Int))
theorem bytes_len {l : List UInt8} : (bytesV l).length = l.length := by simp [bytesV]
theorem byteCells_inv : ∀ {xs : List CV} {s : List UInt8}, byteCells xs = some s → xs = bytesV s
 | [], s, h => by injection h with h; subst h; rfl
 | x :: r, s, h => by
  unfold byteCells at h
  split at h
  ·rename_i heq; cases heq
  ·rename_i n r' heq
   injection heq with e1 e2
   subst e1 e2
   split at h
   ·rename_i hd
    obtain ⟨l, hl, h2⟩ := opt_inv h
    injection h2 with h2
    subst h2
    have ih := byteCells_inv hl
    rw [ih]
    simp only [Bool.and_eq_true, decide_eq_true_eq] at hd
    have hn : ((UInt8.ofNat n.toNat).toNat : Int) = n := by
     rw [UInt8.toNat_ofNat_of_lt' (by show n.toNat < 256; omega)]
     omega
    show _ = CV.v (.int .u8 ((UInt8.ofNat n.toNat).toNat : Int)) :: bytesV l
    rw [hn]
   ·cases h
  ·cases h
theorem ok_string {args : List LV} {out : Out} (h : pString 103 args μ = some out) : Meets E.P W0 77 args μ out := by
 unfold pString at h
 obtain ⟨q, hq, h2⟩ := opt_inv h
 clear h
 obtain ⟨u, hu, h⟩ := opt_inv h2
 clear h2
 have hargs : args = [q.1] := by rw [uncons_inv hq, isNilL_inv hu]
 rw [hargs]
 clear hargs hq hu
 obtain ⟨x, y⟩ := q
 simp only at h ⊢
 split at h <;> try (cases h; done)
 rename_i lev i t n
 obtain ⟨hg, h2⟩ := guard_inv h
 clear h
 rw [Bool.and_eq_true] at hg
 have ht := Nat.eq_of_beq_eq_true hg.1
 have hn := Nat.eq_of_beq_eq_true hg.2
 subst ht hn
 refine ⟨has_body Tryz.func77 rfl (by kernel_rfl), fun G w cargs hs R hkn => ?_⟩
 split at h2 <;> try (cases h2; done)
 rename_i a b hob
 obtain ⟨xs, hxs, h3⟩ := opt_inv h2
 obtain ⟨s, hbs, h4⟩ := opt_inv h3
 injection h4 with h4
 subst h4
 obtain ⟨cur, fz, B, hin, hc0⟩ := bld_of R rfl hob
 have hca := args_one (by simpa using hs) hc0
 have hlt : lev < μ.length := B.lt
 have hot := ob_top (args := [LV.cv (CV.tref lev i 103 2)]) hlt hob
 have hl : isLive (obAt (μ ++ [(argS [LV.cv (CV.tref lev i 103 2)]).lam]) lev i) := by rw [hot]; trivial
 obtain ⟨R1, _, hT, hO1, hO2, hlv⟩ := R.setOb (s1 := argS [LV.cv (CV.tref lev i 103 2)]) (μ1 := muSet μ lev i .dead) (o' := .dead) (cur' := cur) hl B.heap rfl rfl rfl rfl muSet_len.1 (muSet_out hlt).symm
  (fun G' w' _ _ _ => ⟨fun _ => trivial, fun _ => trivial⟩) (fun cs' k b h => by cases h)
 rw [setRow_self w _ cur 103 fz B.heap] at R1 hT hO1 hO2
 have hT1 : ∀ b, TouchS G w (argS [LV.cv (CV.tref lev i 103 2)]) (muSet μ lev i .dead) cargs b → TouchS G w (argS [LV.cv (CV.tref lev i 103 2)]) μ cargs b := by
  intro b hb
  rcases hT b hb with h | ⟨cs', k, h, _⟩
  ·exact h
  ·cases h
 obtain ⟨hown, howns⟩ := getOsl_rel hxs B.vb
 have hp1 : ∃ p, w.heap[G.β lev i]? = some (.cells #[p, cur.getD 1 undef] 103 fz) := by
  refine ⟨cur.getD 0 undef, ?_⟩
  rw [B.heap]
  congr 2
  apply Array.ext
  ·exact B.size
  ·intro j h1 h2
   have hsz := B.size
   have : j = 0 ∨ j = 1 := by omega
   rcases this with rfl | rfl
   ·simp [Array.getD_eq_getD_getElem?, hsz]
   ·simp [Array.getD_eq_getD_getElem?, hsz]
 obtain ⟨p, hbk⟩ := hp1
 rw [hca]
 rcases hown with ⟨hx0, hv0⟩ | ⟨g, cap, cur2, e2, sz, hv, hg, h1, h2', h3', h4, h5, h6, h7, h8⟩
 ·
  subst hx0
  have hs0 : s = [] := by injection hbs with h; exact h.symm
  subst hs0
  rw [hv0] at hbk
  refine (string_nil hbk).mono fun e w2 ⟨k1, k2⟩ => ?_
  subst k1 k2
  rw [← hca]
  exact ret_world R1 hT1 ⟨fun _ _ _ h hb => ⟨h, hb⟩, fun _ _ h => ⟨h, rfl, rfl⟩, fun _ _ _ h hc => ⟨h, hc⟩, fun b cur e fz h => ⟨cur, fz, h, rfl⟩⟩ (fun b _ => ⟨rfl, rfl⟩) rfl rfl rfl rfl (Nat.le_refl _) (fun b _ _ => ⟨rfl, rfl⟩) rfl (fun b h => by simp [Owns] at h)
 ·rw [hv] at hbk
  have hob1 : OwnsAt G w (argS [LV.cv (CV.tref lev i 103 2)]).fr cargs (μ ++ [(argS [LV.cv (CV.tref lev i 103 2)]).lam]) (.ob lev i 1) g := by
   simp only [OwnsAt, hot]
   refine ⟨cur, 103, fz, B.heap, ?_⟩
   have := howns g (by rw [hv]; simp [Owns])
   exact this
  have hTg : TouchS G w (argS [LV.cv (CV.tref lev i 103 2)]) μ cargs g := .inl ⟨_, hob1⟩
  have hne : ∀ b, TouchS G w (argS [LV.cv (CV.tref lev i 103 2)]) (muSet μ lev i .dead) cargs b → b ≠ g := by
   intro b hb e
   subst e
   rcases hb with ⟨q, hb⟩ | ⟨l, j, hb, e⟩
   ·rcases hO1 q b hb with h | ⟨cs', k, h, _⟩
    ·have hq := R.own q (.ob lev i 1) b h hob1
     subst hq
     obtain ⟨cs', h, _⟩ := hO2 1 b hb
     cases h
    ·cases h
   ·exact R.apart (.ob lev i 1) b l j hob1 (hlv l j hb) e
  by_cases hx0 : xs = []
  ·subst hx0
   have hs0 : s = [] := by injection hbs with h; exact h.symm
   subst hs0
   have hcap := h5 rfl
   subst hcap
   refine (string_zero hbk hg).mono fun e w2 ⟨k1, k2⟩ => ?_
   subst k1 k2
   rw [← hca]
   have hle := Le_alloc (G := G) (w := w.drew) (.view ⟨g, 0, none⟩ 5) 0
   have hle2 : Le G w (G.setO w.drew.heap.size 0) (w.drew.alloc (.view ⟨g, 0, none⟩ 5)) := ⟨hle.map, hle.ref, hle.imm, hle.blk⟩
   have hold : ∀ b, b < w.heap.size → (w.drew.alloc (.view ⟨g, 0, none⟩ 5)).heap[b]? = w.heap[b]? ∧ (G.setO w.drew.heap.size 0).O b = G.O b := fun b hb => ⟨heap_alloc_old w.drew _ hb, setO_other (Nat.ne_of_lt hb)⟩
   exact ret_world R1 hT1 hle2 (fun b hb => hold b (R1.touch_lt hb)) rfl rfl rfl rfl (by simp [World.alloc]) (fun b hb _ => hold b hb) rfl (fun b h => by simp [Owns] at h)
  ·have he : e2 = 5 := h8 (by rw [hbs]; rfl) hx0
   subst he
   have hxs2 := byteCells_inv hbs
   have hlen : xs.length = s.length := by rw [hxs2, bytes_len]
   have hs0 : s ≠ [] := by
    intro h
    rw [h] at hlen
    exact hx0 (List.eq_nil_of_length_eq_zero hlen)
   have hsz1 : sz = 1 := by
    cases xs with
    | nil => exact absurd rfl hx0
    | cons c r =>
     have := h4 c List.mem_cons_self
     have hc : c ∈ bytesV s := by rw [← hxs2]; exact List.mem_cons_self
     obtain ⟨b, _, rfl⟩ := List.mem_map.1 hc
     exact this.symm
   subst hsz1
   obtain ⟨olds, ho1, ho2⟩ := EL_vals h6 h4
   have hcells : ∀ (j : Nat) x, s[j]? = some x → w.cell? ⟨g, j, none⟩ = some (.int .u8 x.toNat) := by
    intro j x hx
    have hflat : xs.flatMap CV.cells = bytesV s := by rw [hxs2]; exact byteFlat s
    rw [hflat] at ho1
    obtain ⟨v, hv1, hv2⟩ := (VRL_get ho1).2 j (CV.int .u8 (x.toNat : Int)) (by simp [bytesV, hx])
    simp only [VR] at hv2
    subst hv2
    have := (ho2 j _ hv1).1
    simpa using this
   rw [hlen] at hbk h1
   refine (string_full hbk hs0 hg h1 h2' (by omega) hcells).mono fun e w2 ⟨k1, k2⟩ => ?_
   subst k1 k2
   rw [← hca]
   obtain ⟨f1, ⟨fz', f2⟩, f3, f4, f5, f6⟩ := freeze_heap (n := s.length) hg
   have hle : Le G w G (w.drew.freeze ⟨g, 0, none⟩ s.length) := by
    refine ⟨fun b es clk h hb => ?_, fun _ _ h => ⟨h, rfl, rfl⟩, fun b off v h hc => ⟨h, ?_⟩, fun b c e fz h => ?_⟩
    ·have hb2 : b ≠ g := fun e => by subst e; rw [hg] at hb; cases hb
     exact ⟨h, by rw [f1 b hb2]; exact hb⟩
    ·rw [← hc]
     unfold World.cell?
     by_cases hb2 : b = g
     ·subst hb2
      simp only [f2, hg]
     ·simp only [f1 b hb2]
    ·by_cases hb2 : b = g
     ·subst hb2
      rw [hg] at h
      obtain ⟨rfl, rfl, rfl⟩ := (Obj.cells.injEq ..).mp (Option.some.inj h)
      exact ⟨_, fz', f2, rfl⟩
     ·exact ⟨c, fz, by rw [f1 b hb2]; exact h, rfl⟩
   exact ret_world R1 hT1 hle (fun b hb => ⟨f1 b (hne b hb), rfl⟩) rfl f3 f4 f5 (by rw [f6]; exact Nat.le_refl _) (fun b _ hn => ⟨f1 b (fun e => hn (e ▸ hTg)), rfl⟩) rfl (fun b h => by simp [Owns] at h)
theorem prims_ok (B : Base W0) : PrimsOK E W0 := by
 intro f g hf args μ out h
 have hp : prims f = some g := hf
 unfold prims at hp
 split at hp <;> first | (cases hp; done) | skip
 all_goals (injection hp with hp; subst hp)
 all_goals first
  | exact ok_toUpper B h
  | exact ok_atoi B h
  | exact ok_itoa B h
  | exact ok_hasPrefix B h
  | exact ok_trimPrefix B h
  | exact ok_trimLeft B h
  | exact ok_trimRight B h
  | exact ok_index B h
  | exact ok_contains B h
  | exact ok_cut B h
  | exact ok_indexAny B h
  | exact ok_replaceAll B h
  | exact ok_containsFunc h
  | exact ok_copyCheck h
  | exact ok_string h
theorem mixedE : E.P.follows .mixedOrders = true := by kernel_rfl
end
end Go.Abs

set_option linter.unusedVariables false
set_option linter.unusedSimpArgs false
set_option maxRecDepth 100000
namespace Go.Proofs.YtfcjjankfjaapaaGreatDoor.TokensConstants
open Go Go.Proofs Go.Abs Go.ChangeShapes Go.WideShapes Go.ChangeAt Go.RowKit Glue
theorem contract (H : Type) (enc : TypeId × Value → H) (W : World) (base : Nat) (args : Array Value) (ds gs : List (DataW H)) (before : List MemPlace)
  (hval : ∀ (j : Nat) t v, Tryz.f10.params[j]? = some t → args[j]? = some v → Value.okWide Tryz.prog W .any base t v)
  (hW : DataW.Whole enc Tryz.prog Tryz.f10.params.toList Rows.tokensConstantsSpec.vars false W args.toList ds gs before) (hL : laidMetH Tryz.prog Rows.tokensConstantsRow.laid W) (hS : W.ShapedOpen Tryz.prog) :
  Calls Tryz.prog 10 args W fun e W' => ∃ v, e = .returned v ∧ Rows.tokensConstantsSpec.post enc Tryz.prog Tryz.f10 false true false false W args v W' := by
 have hL' : laidMet Tryz.prog laidAll W := hL
 have B := base_of_laid hL' hS
 have hW' := hW
 obtain ⟨p, q, hA0, hV0, rfl, _, _⟩ := hW
 have hA : DataW.TrodAll enc Tryz.prog W 0 (fun _ => true) true Tryz.f10.params.toList args.toList ds p := hA0
 rw [Tryz.params10] at hA hval
 obtain ⟨v0, vs0, d0, ds0, p0, q0, e0, rfl, rfl, h0, r0⟩ := trodAll_cons hA
 obtain ⟨v1, vs1, d1, ds1, p1, q1, e1, rfl, rfl, h1, r1⟩ := trodAll_cons r0
 obtain ⟨v2, vs2, d2, ds2, p2, q2, e2, rfl, rfl, h2, r2⟩ := trodAll_cons r1
 obtain ⟨rfl, rfl, rfl⟩ := trodAll_nil r2
 obtain rfl : args = #[v0, v1, v2] := by cases args; simp_all
 obtain ⟨rfl, rfl⟩ := trodVars_none hV0
 obtain ⟨c0, V0, I0⟩ := Ga.open_arg (n := 8) (l := [.str]) (by kernel_rfl) (hval 0 9 v0 rfl rfl) h0
 obtain ⟨x0, X0⟩ := Ga.is_str (t := 9) (by kernel_rfl) I0
 obtain ⟨c1, V1, I1⟩ := Ga.open_arg (n := 8) (l := [.str]) (by kernel_rfl) (hval 1 9 v1 rfl rfl) h1
 obtain ⟨x1, X1⟩ := Ga.is_str (t := 9) (by kernel_rfl) I1
 obtain ⟨c2, V2, I2⟩ := Ga.open_arg (n := 8) (l := [.str]) (by kernel_rfl) (hval 2 9 v2 rfl rfl) h2
 obtain ⟨x2, X2⟩ := Ga.is_str (t := 9) (by kernel_rfl) I2
 clear hA0 hV0
 simp only [List.append_nil] at hW'
 have hm : Meets Tryz.prog W 10 ([c0, c1, c2].map LV.cv) [] (.ret (LV.bool true) []) := by
  refine ev_meets mixedE (prims_ok B) ?_
  show (ev E).call 10 [LV.cv c0, LV.cv c1, LV.cv c2] [] = _
  rw [(X0).1, (X1).1, (X2).1]
  exact law10
 refine (Meets.bool (cargs := #[v0, v1, v2]) hm rfl (fun j x hx => ?_)).mono fun e W' ⟨he, hk⟩ => ?_
 ·match j, hx with
  | 0, hx => injection hx with hx; subst hx; exact V0
  | 1, hx => injection hx with hx; subst hx; exact V1
  | 2, hx => injection hx with hx; subst hx; exact V2
 ·subst he
  exact ⟨_, rfl, Ga.post_true (tb := 4) laidOut (by kernel_rfl) Tryz.underlying4 (by kernel_rfl) rfl hW' rfl rfl rfl hk⟩
theorem witness_row (os : Os) {H : Type} (enc : TypeId × Value → H) :
  (OpenSpec.ofChange Rows.tokensConstantsSpec).preRow enc Tryz.prog Tryz.f10 Rows.tokensConstantsRow.domain false Rows.tokensConstantsRow.laid ((laidWorld os).forCall (fun _ _ => 0) ⟨#[], #[.string ⟨#[]⟩, .string ⟨#[]⟩, .string ⟨#[]⟩], []⟩).memory #[.string ⟨#[]⟩, .string ⟨#[]⟩, .string ⟨#[]⟩] := by
 have hw : (DataW.whole enc Tryz.prog ((laidWorld os).forCall (fun _ _ => 0) ⟨#[], #[.string ⟨#[]⟩, .string ⟨#[]⟩, .string ⟨#[]⟩], []⟩).memory Tryz.f10.params.toList Rows.tokensConstantsSpec.vars false (#[.string ⟨#[]⟩, .string ⟨#[]⟩, .string ⟨#[]⟩] : Array Value).toList 8).map (fun x => (x.1, x.2.1)) =
   some ([.lit (.string []), .lit (.string []), .lit (.string [])], []) := by kernel_rfl
 obtain ⟨⟨x1, x2, x3⟩, hx, hx1⟩ := Option.map_eq_some_iff.1 hw
 simp only [Prod.mk.injEq] at hx1
 obtain ⟨rfl, rfl⟩ := hx1
 exact OpenSpec.preRow_of_cond 8 hx (by kernel_rfl) (fun k hk => by cases hk) (by kernel_rfl) (laid_met os _)
theorem lifted (os : Os) (started : os.Started) (H : Type) (enc : TypeId × Value → H) (F : Stop.Interp) :
  ReturnsInHanded {} Tryz.checked os 10 .any ((OpenSpec.ofChange Rows.tokensConstantsSpec).preRow enc Tryz.prog Tryz.f10 Rows.tokensConstantsRow.domain false Rows.tokensConstantsRow.laid) (((OpenSpec.ofChange Rows.tokensConstantsSpec).at F).post enc Tryz.prog Tryz.f10 false true false false) := by
 refine returnsInHanded_of_row (C := Tryz.checked) (s := OpenSpec.ofChange Rows.tokensConstantsSpec) own started (by kernel_rfl) Tryz.func10
  (witness_row_atRef (enc := enc) (C := Tryz.checked) false (laidWorld os) #[.string ⟨#[]⟩, .string ⟨#[]⟩, .string ⟨#[]⟩] rfl (by kernel_rfl) (by kernel_rfl) (by kernel_rfl) (witness_row os enc)) ?_
 intro W base args ds gs before hval hW _ _ _ hL hS _
 exact contract H enc W base args ds gs before hval hW hL hS
theorem said : Rows.TokensConstantsSaid :=
 OpenClaim.holds_of_cond 10 Tryz.f10 rfl rfl rfl rfl rfl rfl rfl ⟨rfl, rfl, rfl, rfl, rfl⟩ rfl rfl rfl rfl rfl (by kernel_rfl) Tryz.func10 (by kernel_rfl)
  (of_decide_eq_true (by kernel_rfl)) (by unfold Func.isWrapper; first | (rw [if_pos (by decide +kernel)]; kernel_rfl) | (rw [if_neg (by decide +kernel)]; exact ⟨rfl, rfl⟩))
  (fun os started H enc _ F => by rw [OpenClaim.pre_eq_preRow]; exact lifted os started H enc F)
theorem plain (f : FuncId) (fn : Func) (hf : Tryz.pinned.checked.prog.funcNamed "formulary/formularylaw03.TokensConstants" = some f) (hfn : Tryz.pinned.checked.prog.funcs[f]? = some fn) :
  true = Tryz.pinned.checked.prog.looks [] ∧ ∀ (j : Nat) t, fn.params[j]? = some t → Tryz.pinned.checked.prog.wantsStandIn t = false := by
 obtain rfl : f = 10 := Option.some.inj ((show Tryz.prog.funcNamed "formulary/formularylaw03.TokensConstants" = some 10 by kernel_rfl).symm.trans hf) |>.symm
 obtain rfl : fn = Tryz.f10 := (Option.some.inj (Tryz.func10.symm.trans hfn)).symm
 refine ⟨by kernel_rfl, fun j t ht => ?_⟩
 rw [Tryz.params10] at ht
 have hm := Array.mem_of_getElem? ht
 simp only [List.mem_toArray, List.mem_cons, List.not_mem_nil, or_false] at hm
 rcases hm with rfl | rfl | rfl
 ·exact (show Tryz.prog.wantsStandIn 9 = false by kernel_rfl)
 ·exact (show Tryz.prog.wantsStandIn 9 = false by kernel_rfl)
 ·exact (show Tryz.prog.wantsStandIn 9 = false by kernel_rfl)
end Go.Proofs.YtfcjjankfjaapaaGreatDoor.TokensConstants
namespace Go.Proofs.YtfcjjankfjaapaaGreatDoor
theorem tokensConstants_holds : Rows.TokensConstantsCardSaid :=
 Claim7.holds_tied_plain_at .later [] _ _ _ _ TokensConstants.said (fun _ h => by cases h) (by kernel_rfl) (fun _ h => by cases h) tokensConstants_row_tie rfl ⟨rfl, rfl⟩ (by kernel_rfl) rfl TokensConstants.plain (by kernel_rfl)
#print axioms tokensConstants_holds
end Go.Proofs.YtfcjjankfjaapaaGreatDoor
