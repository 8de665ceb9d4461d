/-
  The statement TokensConstantsCardSaid, proved; part 4 of 8 of its proof.
  Code, loops, calls: what the interpreter does, the machine does.
  Deferred calls; all functions together.
  The interpreter without fuel.
  From the interpreter to a law: a call from outside, with arguments that are only read.
  Places to stop at: the interpreter goes on from a state, with what is left to be done written out.
  Functions that are taken by contract: what a contract must say.
  What the library's functions answer that are taken by contract: by Go's texts, as functions of lists of bytes.
  The hints of each function, and what reads a struct. Printed by a program.
  Library contracts at this program, laid by the shelf's tool; a part of them.
-/
import Derived.Test.YtfcjjankfjaapaaGreatDoorC2
import Derived.Recover
import Derived.ProofKit
import Derived.KernelRfl
import Derived.Below
import Derived.Lib.MapU
import Derived.Lib.AtoiAll
import Derived.Lib.ItoaNum
import Derived.Lib.IndexAny
import Derived.Lib.IndexMore
import Derived.Lib.Replace
import Derived.Lib.TrimByte
import Derived.Test.YtfcjjankfjaapaaGreatDoorProg
import Derived.Shelf.Strings.Builder1
import Derived.Shelf.Strings.Builder2
import Derived.Shelf.Strings.OnBuilder
import Derived.Shelf.Strings.Trim
import Derived.Shelf.Small.Utf8
import Derived.Shelf.Small.Strs
import Derived.Shelf.Strings.BuilderF
import Derived.Shelf.Strings.BuilderK
import Derived.Shelf.Strings.BuilderRune
import Derived.Shelf.Utf8.RuneCount
import Derived.Shelf.Strings.Builder2Cap
import Derived.Shelf.Strconv.Atoi
import Derived.Shelf.Strconv.Itoa0
import Derived.Shelf.Strconv.Itoa1
import Derived.Shelf.LaysM
import Derived.Shelf.Strconv.Itoa2
import Derived.Shelf.Strconv.Itoa3
import Derived.Shelf.Strconv.AtoiErrFast
import Derived.Shelf.Strconv.ParseIntEmpty
import Derived.Shelf.Strconv.AtoiFail
import Derived.Shelf.Strconv.Clone
import Derived.Shelf.Strconv.SyntaxError
import Derived.Shelf.LaysC
import Derived.Shelf.Strconv.ToError
import Derived.Shelf.Strconv.Lower
import Derived.Shelf.Strconv.ParseUint10
import Derived.Shelf.Strconv.ParseUint10Empty
import Derived.Shelf.Strconv.ParseUint10Any
import Derived.Shelf.Strconv.ParseInt10
import Derived.Shelf.Strconv.AtoiLong
import Derived.Shelf.Strconv.AtoiInnerAll
import Derived.Shelf.Strconv.RangeError
import Derived.Shelf.Strconv.ToErrorRange
import Derived.Shelf.Strconv.AtoiAll
import Derived.Shelf.Strconv.ErrVarAll
import Derived.Shelf.Strings.Search1
import Derived.Shelf.Strings.Search2
import Derived.Shelf.Strings.Search3
import Derived.Shelf.Strings.Cut
import Derived.Shelf.Strings.Count
import Derived.Shelf.Strings.Shaped
import Derived.Shelf.GgClosure.StringsIndexFunc
import Derived.Ground.GgwProg
import Derived.Shelf.GgClosure.StringsIndexFuncTop
import Derived.Shelf.Strings.Prefix
import Derived.Shelf.Strings.Split
import Derived.Shelf.Strings.Replace
import Derived.Shelf.Strings.SplitShaped
import Derived.Shelf.Unicode.Latin
import Derived.Shelf.Unicode.Decode
import Derived.Shelf.Strings.Runes
import Derived.Shelf.Strings.RuneCount
import Derived.Shelf.Strings.IndexAny
import Derived.Shelf.Strings.AsciiSet
import Derived.Shelf.Strings.IndexAnyAll
import Derived.Shelf.Unicode.DecodeSlow
import Derived.Shelf.Unicode.DecodeAny
import Derived.Shelf.Unicode.DecodeLast
import Derived.Shelf.Unicode.CaseLookup
import Derived.Shelf.Unicode.CaseConvert
import Derived.Shelf.Unicode.CaseTo
import Derived.Shelf.Unicode.CaseLaid
import Derived.Shelf.Strings.MapAny
import Derived.Shelf.Strings.CaseAny
import Derived.Shelf.Strings.FuncGrows
import Derived.Shelf.Strings.BuilderCap
set_option linter.all false
set_option linter.unusedSectionVars false
set_option linter.unusedVariables false
set_option linter.unusedSimpArgs false
namespace Go.Abs
open Go
def Since (L : Nat) (T : Nat → Prop) (G : Gh) (w : World) (n : Nat) (ds : Keep) (s : S) (μ : Mu) (a : Act) (w' : World) (G' : Gh) : Prop :=
 Rel G' L s μ a.tmps w' ∧ Ext L T G w G' w' (TouchS G' w' s μ a.tmps) ∧ a.tmps.size = n ∧ ds.at a ∧ G.n L = 0
def StR (L : Nat) (T : Nat → Prop) (G : Gh) (w : World) (n : Nat) (ds : Keep) : St → Exit → Act → World → Prop
 | .norm s μ, .normal, a, w' => ∃ G', Since L T G w n ds s μ a w' G'
 | .exit i s μ, .exit j, a, w' => i = j ∧ ∃ G', Since L T G w n ds s μ a w' G'
 | .ret s μ, .ret, a, w' => ∃ G', Since L T G w n ds s μ a w' G'
 | .panic v s μ, .panic ch, a, w' => ∃ G' pv, ch = [{ v := pv, recovered := false }] ∧ VR G' w' v pv ∧ Since L T G w n ds s μ a w' G'
 | _, _, _, _ => False
def LoopW (P : Program) (c : Code) (Q : Exit → Act → World → Prop) (a : Act) (w : World) : Prop :=
 ∀ (b : Frame) (k : List Item) (cs : List Frame), ∃ e a' w', Q e a' w' ∧ Arrives P (lone (b.at a (.code c :: .inLoop c :: k)) cs w) b k cs e a' w'
def LoopsOK (P : Program) (W0 : World) (ρ : Rho) : Prop := ∀ H lv c s μ st, ρ.loop H lv c s μ = some st → ∀ L G w a Q T G0 w0 n (ds : Keep), codeOK n ds.slot c = true → Kn W0 w0 T → Since L T G0 w0 n ds s μ a w G →
 (∀ e a' w', StR L T G0 w0 n ds st e a' w' → Q e a' w') → LoopW P c Q a w
def SegsOK (P : Program) (W0 : World) (ρ : Rho) : Prop := ∀ H lv c s μ st, ρ.seg H lv c s μ = some st → ∀ L G w a Q T G0 w0 n (ds : Keep), codeOK n ds.slot c = true → Kn W0 w0 T → Since L T G0 w0 n ds s μ a w G →
 (∀ e a' w', StR L T G0 w0 n ds st e a' w' → Q e a' w') → c.wp P Q a w
section
variable {P : Program} {W0 : World} {ρ : Rho} {Q : Exit → Act → World → Prop} {a : Act} {w : World} {c : Code}
theorem LoopW.wp (h : LoopW P c Q a w) : (Code.loop c).wp P Q a w := by
 intro b k cs
 obtain ⟨e, a', w', hq, harr⟩ := h b k cs
 exact ⟨e, a', w', hq, .of_steps (.one step_loop) harr⟩
theorem LoopW.unroll (h : c.wp P (Exit.then (LoopW P c Q) Q) a w) : LoopW P c Q a w := by
 intro b k cs
 obtain ⟨e, a₁, w₁, hq, harr⟩ := h b (.inLoop c :: k) cs
 cases e with
 | normal =>
  obtain ⟨e₂, a₂, w₂, hq₂, harr₂⟩ := hq b k cs
  exact ⟨e₂, a₂, w₂, hq₂, .of_steps (Steps.trans harr (.one step_inLoop)) harr₂⟩
 | exit id => exact ⟨_, a₁, w₁, hq, .pass (x := .inLoop c) rfl (fun _ _ => .inl (by simp)) harr⟩
 | goto l => exact ⟨_, a₁, w₁, hq, .pass (x := .inLoop c) rfl (fun _ _ => .inl (by simp)) harr⟩
 | ret => exact ⟨_, a₁, w₁, hq, .pass (x := .inLoop c) rfl (fun _ _ => .inl (by simp)) harr⟩
 | panic ch => exact ⟨_, a₁, w₁, hq, .pass (x := .inLoop c) rfl (fun _ _ => .inl (by simp)) harr⟩
 | outgrown => exact ⟨_, a₁, w₁, hq, .pass (x := .inLoop c) rfl (fun _ _ => .inl (by simp)) harr⟩
theorem execK_sound (hm : P.follows .mixedOrders = true) (hrho : CallsOK P W0 ρ) (hloop : LoopsOK P W0 ρ) (hseg : SegsOK P W0 ρ) {H : Hints} : ∀ (c : Code) {α : Type} {k : St → Option α} {r : α} {Q : Exit → Act → World → Prop} {L : Nat} {T : Nat → Prop} {G0 G : Gh} {w0 w : World} {n : Nat} {ds : Keep} {s : S} {μ : Mu} {a : Act},
  codeOK n ds.slot c = true → Kn W0 w0 T → execK P ρ H c s μ k = some r → Since L T G0 w0 n ds s μ a w G → (∀ st e a' w', k st = some r → StR L T G0 w0 n ds st e a' w' → Q e a' w') → c.wp P Q a w
 | .skip, α, k, r, Q, L, T, G0, G, w0, w, n, ds, s, μ, a, hc, hkn, h, hs, hk => by
  simp only [execK] at h
  exact wp_skip (hk _ _ _ _ h ⟨G, hs⟩)
 | .region id ops draw, α, k, r, Q, L, T, G0, G, w0, w, n, ds, s, μ, a, hc, hkn, h, hs, hk => by
  simp only [execK] at h
  simp only [codeOK] at hc
  obtain ⟨R, E, hn, hd, h0⟩ := hs
  split at h
  ·refine wp_region (opsK_sound (L := L) (G0 := G0) (w0 := w0) (T := T) (n := n) (ds := ds) hrho (fun i o ho d hd => opsDst_get hc (by simpa using ho) d hd) hkn ?_ ?_ _ h R E hn hd)
   ·intro s' μ' a' w' G' h' R' E' hn' hd'
    exact hk _ .normal a' w' h' ⟨G', R', E', hn', hd', h0⟩
   ·intro v s' μ' pv a' w' G' h' R' hv E' hn' hd'
    exact hk _ (.panic _) a' w' h' ⟨G', pv, rfl, hv, R', E', hn', hd', h0⟩
  ·obtain ⟨hdr, h⟩ := guardB_some.1 h
   refine drawn_sound (L := L) (G0 := G0) (w0 := w0) (T := T) (n := n) (ds := ds) hrho hm hdr (fun i o ho d hd => opsDst_get hc (by simpa using ho) d hd) hkn ?_ h R E hn hd
   intro s' μ' a' w' G' h' R' E' hn' hd'
   exact hk _ .normal a' w' h' ⟨G', R', E', hn', hd', h0⟩
 | .seq x y, α, k, r, Q, L, T, G0, G, w0, w, n, ds, s, μ, a, hc, hkn, h, hs, hk => by
  simp only [execK] at h
  simp only [codeOK] at hc
  obtain ⟨hx, hy⟩ := two_true hc
  refine wp_seq (execK_sound hm hrho hloop hseg x hx hkn h hs fun st e a' w' h' hst => ?_)
  cases st with
  | norm s' μ' =>
   cases e <;> simp only [StR] at hst
   obtain ⟨G', hs'⟩ := hst
   dsimp only at h'
   split at h'
   ·exact execK_sound hm hrho hloop hseg y hy hkn h' hs' hk
   ·obtain ⟨s1, G1, h1, R1, E1⟩ := obsK_sound h' hs'.1
    obtain ⟨s2, G2, h2, R2, E2⟩ := maskK_sound h1 R1
    obtain ⟨s3, G3, h2, R3, E3⟩ := truncK_sound (R2.lev ▸ h2) R2 (hs'.2.1.trans (E1.trans E2)) hs'.2.2.2.2
    obtain ⟨st, hst, h3⟩ := opt_some.1 h2
    exact hseg _ _ _ _ _ _ hst L G3 w' a' Q T G0 w0 n ds hy hkn ⟨R3, E3, hs'.2.2⟩ fun e a' w' hr => hk st e a' w' h3 hr
  | exit i s' μ' => cases e <;> first | exact hst.elim | exact hk _ _ _ _ h' hst
  | ret s' μ' => cases e <;> first | exact hst.elim | exact hk _ _ _ _ h' hst
  | panic v s' μ' => cases e <;> first | exact hst.elim | exact hk _ _ _ _ h' hst
 | .cond cc x y, α, k, r, Q, L, T, G0, G, w0, w, n, ds, s, μ, a, hc, hkn, h, hs, hk => by
  simp only [execK] at h
  simp only [codeOK] at hc
  obtain ⟨hx, hy⟩ := two_true hc
  obtain ⟨b, hb, h⟩ := opt_some.1 h
  have hv := eval_cv (a := a) hs.1 (getBool_eq hb)
  simp only [VR] at hv
  refine wp_cond hv ?_
  cases b with
  | true => exact execK_sound hm hrho hloop hseg x hx hkn h hs hk
  | false => exact execK_sound hm hrho hloop hseg y hy hkn h hs hk
 | .block id x, α, k, r, Q, L, T, G0, G, w0, w, n, ds, s, μ, a, hc, hkn, h, hs, hk => by
  simp only [execK] at h
  simp only [codeOK] at hc
  refine wp_block (execK_sound hm hrho hloop hseg x hc hkn h hs fun st e a' w' h' hst => ?_)
  cases st with
  | norm s' μ' => cases e <;> first | exact hst.elim | exact hk _ _ _ _ h' hst
  | exit i s' μ' =>
   cases e <;> first | exact hst.elim | skip
   simp only [StR] at hst
   obtain ⟨rfl, hs'⟩ := hst
   simp only [Exit.inBlock]
   dsimp only at h'
   split at h'
   ·rename_i he
    rw [if_pos (Nat.eq_of_beq_eq_true he)]
    exact hk _ .normal _ _ h' hs'
   ·rename_i he
    rw [if_neg fun e => by subst e; simp [Nat.beq_refl] at he]
    exact hk _ (.exit i) _ _ h' ⟨rfl, hs'⟩
  | ret s' μ' => cases e <;> first | exact hst.elim | exact hk _ _ _ _ h' hst
  | panic v s' μ' => cases e <;> first | exact hst.elim | exact hk _ _ _ _ h' hst
 | .loop x, α, k, r, Q, L, T, G0, G, w0, w, n, ds, s, μ, a, hc, hkn, h, hs, hk => by
  simp only [execK] at h
  simp only [codeOK] at hc
  obtain ⟨s1, G1, h1, R1, E1⟩ := obsK_sound h hs.1
  obtain ⟨s', G', h', R', E'⟩ := maskK_sound h1 R1
  obtain ⟨s3, G3, h', R3, E3⟩ := truncK_sound (R'.lev ▸ h') R' (hs.2.1.trans (E1.trans E')) hs.2.2.2.2
  obtain ⟨st, hst, h'⟩ := opt_some.1 h'
  exact (hloop _ _ _ _ _ _ hst L G3 w a Q T G0 w0 n ds hc hkn ⟨R3, E3, hs.2.2⟩ fun e a' w' hr => hk st e a' w' h' hr).wp
 | .exit id, α, k, r, Q, L, T, G0, G, w0, w, n, ds, s, μ, a, hc, hkn, h, hs, hk => by
  simp only [execK] at h
  exact wp_exit (hk _ (.exit id) _ _ h ⟨rfl, G, hs⟩)
 | .ret, α, k, r, Q, L, T, G0, G, w0, w, n, ds, s, μ, a, hc, hkn, h, hs, hk => by
  simp only [execK] at h
  exact wp_ret (hk _ .ret _ _ h ⟨G, hs⟩)
 | .rangeFunc .., α, k, r, Q, L, T, G0, G, w0, w, n, ds, s, μ, a, hc, hkn, h, hs, hk => by simp [execK] at h
 | .scope .., α, k, r, Q, L, T, G0, G, w0, w, n, ds, s, μ, a, hc, hkn, h, hs, hk => by simp [execK] at h
 | .label .., α, k, r, Q, L, T, G0, G, w0, w, n, ds, s, μ, a, hc, hkn, h, hs, hk => by simp [execK] at h
 | .goto .., α, k, r, Q, L, T, G0, G, w0, w, n, ds, s, μ, a, hc, hkn, h, hs, hk => by simp [execK] at h
 | .refuse .., α, k, r, Q, L, T, G0, G, w0, w, n, ds, s, μ, a, hc, hkn, h, hs, hk => by simp [execK] at h
theorem roundK_sound (hm : P.follows .mixedOrders = true) (hrho : CallsOK P W0 ρ) (hloop : LoopsOK P W0 ρ) (hseg : SegsOK P W0 ρ) {H : Hints} {lv : List (Nat × Nat)} {c : Code} {s : S} {μ : Mu} {st : St} (h : roundK P ρ H lv c s μ = some st) {L : Nat} {G G0 : Gh} {w w0 : World} {a : Act} {Q : Exit → Act → World → Prop}
  {T : Nat → Prop} {n : Nat} {ds : Keep} (hc : codeOK n ds.slot c = true) (hkn : Kn W0 w0 T) (hs : Since L T G0 w0 n ds s μ a w G) (hQ : ∀ e a' w', StR L T G0 w0 n ds st e a' w' → Q e a' w') : LoopW P c Q a w := by
 unfold roundK at h
 refine .unroll (execK_sound hm hrho hloop hseg c hc hkn h hs fun st1 e a' w' h' hst => ?_)
 cases st1 with
 | norm s1 μ1 =>
  cases e <;> simp only [StR] at hst
  obtain ⟨G1, hs1⟩ := hst
  obtain ⟨s3, G3, h3, R3, E3⟩ := obsK_sound h' hs1.1
  obtain ⟨s2, G2, h2, R2, E2⟩ := maskK_sound h3 R3
  obtain ⟨s4, G4, h2, R4, E4⟩ := truncK_sound (R2.lev ▸ h2) R2 (hs1.2.1.trans (E3.trans E2)) hs1.2.2.2.2
  exact hloop _ _ _ _ _ _ h2 L G4 w' a' Q T G0 w0 n ds hc hkn ⟨R4, E4, hs1.2.2⟩ hQ
 | exit i s1 μ1 =>
  cases e <;> first | exact hst.elim | skip
  simp only [StR] at hst
  obtain ⟨rfl, G1, hs1⟩ := hst
  obtain ⟨s2, G2, h2, R2, E2⟩ := maskK_sound h' hs1.1
  simp only [Option.some.injEq] at h2
  subst h2
  exact hQ (.exit i) a' w' ⟨rfl, G2, R2, hs1.2.1.trans E2, hs1.2.2⟩
 | ret s1 μ1 =>
  cases e <;> first | exact hst.elim | skip
  simp only [StR] at hst
  obtain ⟨G1, hs1⟩ := hst
  obtain ⟨s2, G2, h2, R2, E2⟩ := maskK_sound h' hs1.1
  simp only [Option.some.injEq] at h2
  subst h2
  exact hQ .ret a' w' ⟨G2, R2, hs1.2.1.trans E2, hs1.2.2⟩
 | panic v s1 μ1 =>
  cases e <;> first | exact hst.elim | skip
  simp only [StR] at hst
  obtain ⟨G1, pv, rfl, hv, hs1⟩ := hst
  obtain ⟨s2, G2, h2, R2, E2⟩ := maskK_sound h' hs1.1
  simp only [Option.some.injEq] at h2
  subst h2
  exact hQ _ a' w' ⟨G2, pv, rfl, VR_mono E2.le _ _ hv, R2, hs1.2.1.trans E2, hs1.2.2⟩
theorem segK_sound (hm : P.follows .mixedOrders = true) (hrho : CallsOK P W0 ρ) (hloop : LoopsOK P W0 ρ) (hseg : SegsOK P W0 ρ) {H : Hints} {lv : List (Nat × Nat)} {c : Code} {s : S} {μ : Mu} {st : St} (h : segK P ρ H lv c s μ = some st) {L : Nat} {G G0 : Gh} {w w0 : World} {a : Act} {Q : Exit → Act → World → Prop}
  {T : Nat → Prop} {n : Nat} {ds : Keep} (hc : codeOK n ds.slot c = true) (hkn : Kn W0 w0 T) (hs : Since L T G0 w0 n ds s μ a w G) (hQ : ∀ e a' w', StR L T G0 w0 n ds st e a' w' → Q e a' w') : c.wp P Q a w := by
 unfold segK at h
 refine execK_sound hm hrho hloop hseg c hc hkn h hs fun st1 e a' w' h' hst => ?_
 cases st1 with
 | norm s1 μ1 =>
  cases e <;> simp only [StR] at hst
  obtain ⟨G1, hs1⟩ := hst
  obtain ⟨s2, G2, h2, R2, E2⟩ := maskK_sound h' hs1.1
  simp only [Option.some.injEq] at h2
  subst h2
  exact hQ .normal a' w' ⟨G2, R2, hs1.2.1.trans E2, hs1.2.2⟩
 | exit i s1 μ1 =>
  cases e <;> first | exact hst.elim | skip
  simp only [StR] at hst
  obtain ⟨rfl, G1, hs1⟩ := hst
  obtain ⟨s2, G2, h2, R2, E2⟩ := maskK_sound h' hs1.1
  simp only [Option.some.injEq] at h2
  subst h2
  exact hQ (.exit i) a' w' ⟨rfl, G2, R2, hs1.2.1.trans E2, hs1.2.2⟩
 | ret s1 μ1 =>
  cases e <;> first | exact hst.elim | skip
  simp only [StR] at hst
  obtain ⟨G1, hs1⟩ := hst
  obtain ⟨s2, G2, h2, R2, E2⟩ := maskK_sound h' hs1.1
  simp only [Option.some.injEq] at h2
  subst h2
  exact hQ .ret a' w' ⟨G2, R2, hs1.2.1.trans E2, hs1.2.2⟩
 | panic v s1 μ1 =>
  cases e <;> first | exact hst.elim | skip
  simp only [StR] at hst
  obtain ⟨G1, pv, rfl, hv, hs1⟩ := hst
  obtain ⟨s2, G2, h2, R2, E2⟩ := maskK_sound h' hs1.1
  simp only [Option.some.injEq] at h2
  subst h2
  exact hQ _ a' w' ⟨G2, pv, rfl, VR_mono E2.le _ _ hv, R2, hs1.2.1.trans E2, hs1.2.2⟩
end
section
variable {P : Program} {W0 : World} {ρ : Rho} {L : Nat} {G G' : Gh} {w w' : World} {s : S} {μ μ' : Mu} {tm : Array Value}
def resRun (tm : Array Value) (x : ResultVar) : Sem Value := match x with
 | .tmp t => pure (tm.getD t undef)
 | .cell a t => do loadVar t (← asAddr (tm.getD a undef))
theorem resV_run (R : Rel G L s μ tm w) {x : ResultVar} {y : LV} (h : resV P s x = some y) : ∃ v, (resRun tm x).run P w = .ok v w ∧ LVR G w L s.lam.length y v ∧ ∀ b, Owns y v b → ∃ t, Owns (s.fr t) (tm.getD t undef) b := by
 cases x with
 | tmp t =>
  simp only [resV, Option.some.injEq] at h
  subst h
  exact ⟨_, rfl, R.fr t, fun b hb => ⟨t, hb⟩⟩
 | cell c t =>
  simp only [resV] at h
  split at h <;> try (simp at h; done)
  rename_i i off he
  have hv := R.fr c
  rw [he] at hv
  simp only [LVR] at hv
  unfold obRead at h
  obtain ⟨d, hd, h⟩ := opt_some.1 h
  obtain ⟨cv, h1, h2, h3⟩ := obRead_sound (R.lam i) h ⟨d, hd⟩
  refine ⟨cv, ?_, h2, fun b hb => absurd hb (h3 b)⟩
  simp only [Instr.loadAt, Instr.sureAddr, Sem.run_bind, Sem.run_pure, Result.andThen_ok] at h1
  simp only [resRun, hv.2, asAddr, Sem.run_bind, Sem.run_pure, Result.andThen_ok]
  exact h1
theorem resVs_run (R : Rel G L s μ tm w) : ∀ {l : List ResultVar} {ys : List LV}, resVs P s l = some ys → ∃ vs : List Value, (l.mapM (resRun tm)).run P w = .ok vs w ∧ vs.length = ys.length ∧
  ∀ j y, ys[j]? = some y → LVR G w L s.lam.length y (vs.getD j undef) ∧ ∀ b, Owns y (vs.getD j undef) b → ∃ t, Owns (s.fr t) (tm.getD t undef) b
 | [], ys, h => by
  simp only [resVs, Option.some.injEq] at h
  subst h
  exact ⟨[], by simp, rfl, fun j y hy => by simp at hy⟩
 | x :: r, ys, h => by
  simp only [resVs] at h
  obtain ⟨y, h1, h⟩ := opt_some.1 h
  obtain ⟨l, h2, h⟩ := opt_some.1 h
  simp only [Option.some.injEq] at h
  subst h
  obtain ⟨v, k1, k2, k3⟩ := resV_run R h1
  obtain ⟨vs, k4, k5, k6⟩ := resVs_run R h2
  refine ⟨v :: vs, by simp only [List.mapM_cons, Sem.run_bind, k1, Result.andThen_ok, k4, Sem.run_pure], by simp [k5], fun j z hz => ?_⟩
  cases j with
  | zero => simp only [List.getElem?_cons_zero, Option.some.injEq] at hz; subst hz; simpa using And.intro k2 k3
  | succ j => simpa using k6 j z (by simpa using hz)
theorem results_run (R : Rel G L s μ tm w) {fn : Func} {ys : List LV} (h : resVs P s fn.results.toList = some ys) :
  ∃ v, (results fn tm).run P w = .ok v w ∧ LVR G w L s.lam.length (resultA ys) v ∧ ∀ b, Owns (resultA ys) v b → ∃ t, Owns (s.fr t) (tm.getD t undef) b := by
 obtain ⟨vs, h1, h2, h3⟩ := resVs_run R h
 have hm : (fn.results.mapM (resRun tm)).run P w = .ok vs.toArray w := by
  rw [Array.mapM_eq_mapM_toList, Sem.run_map, h1]
  rfl
 have hrun : (results fn tm).run P w = .ok (if h : vs.toArray.size = 1 then vs.toArray[0] else .tuple vs.toArray) w := by
  unfold results
  rw [Sem.run_bind]
  have e : ∀ x : Sem (Array Value), x.run P w = .ok vs.toArray w → (x.run P w).andThen (fun a w' => Sem.run P (pure (if h : a.size = 1 then a[0] else Value.tuple a)) w') =
    .ok (if h : vs.toArray.size = 1 then vs.toArray[0] else .tuple vs.toArray) w := fun x hx => by rw [hx]; rfl
  exact e _ hm
 refine ⟨_, hrun, ?_⟩
 by_cases hl : ys.length = 1
 ·cases ys with
  | nil => simp at hl
  | cons y r =>
   cases r with
   | cons => simp at hl
   | nil =>
    cases vs with
    | nil => simp at h2
    | cons v r =>
     cases r with
     | cons => simp at h2
     | nil => simpa [resultA] using h3 0 y rfl
 ·have e : resultA ys = .ltup (ys.map Go.Abs.strip1) := by
   cases ys with
   | nil => rfl
   | cons t r =>
    cases r with
    | nil => simp at hl
    | cons u r => rfl
  rw [e, dif_neg (by simpa [h2] using hl)]
  refine ⟨?_, fun b hb => by simp [Owns] at hb⟩
  simp only [LVR]
  refine ⟨_, rfl, ?_⟩
  simp only
  clear e hl hrun hm h1 h
  induction ys generalizing vs with
  | nil => cases vs <;> simp_all [LVRL]
  | cons y r ih =>
   cases vs with
   | nil => simp at h2
   | cons v vs =>
    have h0 := h3 0 y rfl
    simp only [List.getD_cons_zero] at h0
    simp only [List.map_cons, LVRL]
    refine ⟨v, vs, rfl, (LVR_strip1 h0.1).2, (LVR_strip1 h0.1).1, ih vs (by simpa using h2) fun j z hz => ?_⟩
    simpa using h3 (j + 1) z (by simpa using hz)
theorem Rel.leave {G0 : Gh} {w0 : World} {T : Nat → Prop} (R : Rel G L s μ tm w) (E : Ext L T G0 w0 G w (TouchS G w s μ tm)) (h0 : G0.n L = 0) (hgt : ∀ l, L < l → G0.n l = 0) {vs : List LV} {tmr : Array Value}
  (hv : ∀ j x, vs[j]? = some x → LVR (G.cut L) w L 0 x (tmr.getD j undef)) (ho : ∀ j x b, vs[j]? = some x → Owns x (tmr.getD j undef) b → (∃ t, Owns (s.fr t) (tm.getD t undef) b) ∧ j = 0) :
  Rel (G0.withO G.O) L (argS vs) μ tmr w ∧ Ext L T G0 w0 (G0.withO G.O) w (TouchS (G0.withO G.O) w (argS vs) μ tmr) ∧ Le (G.cut L) w (G0.withO G.O) w := by
 have hμ := R.lev
 have hleC : Le (G.cut L) w (G0.withO G.O) w := by
  refine ⟨fun _ _ _ h hb => ⟨h, hb⟩, fun lev i h => ?_, fun _ _ _ h hc => ⟨h, hc⟩, fun b cur e fz h => ⟨cur, fz, h, rfl⟩⟩
  simp only [Gh.cut] at h
  split at h
  ·rename_i hl
   obtain ⟨h1, h2⟩ := E.lev lev hl
   simp only [Gh.withO, Gh.cut]
   exact ⟨by rw [← h2]; exact h, (h1 i).1.symm, (h1 i).2.symm⟩
  ·omega
 have hβ : ∀ lev i, lev < L → (G0.withO G.O).β lev i = G.β lev i ∧ (G0.withO G.O).sz lev i = G.sz lev i := fun lev i hl => ⟨((E.lev lev hl).1 i).1.symm, ((E.lev lev hl).1 i).2.symm⟩
 have hlive : ∀ lev i, isLive (obAt (μ ++ [(argS vs).lam]) lev i) → lev < L ∧ isLive (obAt (μ ++ [s.lam]) lev i) := by
  intro lev i h
  obtain ⟨h1, h2⟩ := obAt_nil h
  refine ⟨by omega, ?_⟩
  have h3 : obAt (μ ++ [s.lam]) lev i = muOb μ lev i := muOb_lt h1
  rw [h3, ← h2]; exact h
 have hown : ∀ q b, OwnsAt (G0.withO G.O) w (argS vs).fr tmr (μ ++ [(argS vs).lam]) q b → (∃ t, q = .fr 0 ∧ OwnsAt G w s.fr tm (μ ++ [s.lam]) (.fr t) b) ∨ (∃ lev i k, q = .ob lev i k ∧ OwnsAt G w s.fr tm (μ ++ [s.lam]) q b) := by
  intro q b h
  cases q with
  | fr t =>
   simp only [OwnsAt, argS_fr] at h
   cases hx : vs[t]? with
   | none => rw [hx] at h; simp [Owns] at h
   | some x =>
    rw [hx] at h
    obtain ⟨⟨u, hu⟩, rfl⟩ := ho t x b hx h
    exact .inl ⟨u, rfl, hu⟩
  | ob lev i k =>
   have hl := ownsAt_live h
   obtain ⟨h1, h2⟩ := obAt_nil hl
   refine .inr ⟨lev, i, k, rfl, ownsAt_ob (fr' := (argS vs).fr) (tm' := tmr) ?_ (hβ lev i (by omega)).1 rfl h⟩
   rw [show obAt (μ ++ [(argS vs).lam]) lev i = muOb μ lev i from h2]
   exact (muOb_lt h1).symm
 refine ⟨⟨hμ, fun t => ?_, fun i => ?_, fun lev i hl => ?_, fun lev i lev' i' h h' e => ?_, fun q q' b h h' => ?_, fun q b lev i h h' e => ?_, fun lev hl => ?_, ?_, hgt⟩, ⟨⟨E.le.map, fun lev i h => ⟨h, rfl, rfl⟩, E.le.imm, E.le.blk⟩, E.os, E.tape, E.output, E.size, E.keep, fun b hb => E.grow b ?_, fun l hl => ⟨fun _ => ⟨rfl, rfl⟩, rfl⟩⟩, hleC⟩
 ·rw [argS_fr]
  cases hx : vs[t]? with
  | none => simp [LVR, VR]
  | some x =>
   have h1 := hv t x hx
   refine LVR_zero x _ (LVR_mono (L := L) (nl := 0) hleC (Nat.le_refl _) (fun i hi => by omega) x _ (fun b _ => ⟨rfl, rfl⟩) h1)
 ·have : lamOb (argS vs).lam i = .dead := by simp [argS, lamOb]
  rw [this]; trivial
 ·rw [(hβ lev i hl).1, (hβ lev i hl).2]
  refine ObR_mono (G := G.below lev) (G' := (G0.withO G.O).below lev) (w' := w) ⟨fun _ _ _ h hb => ⟨h, hb⟩, fun l j hj => ?_, fun _ _ _ h hc => ⟨h, hc⟩, fun b cur e fz h => ⟨cur, fz, h, rfl⟩⟩ (Nat.le_refl _) (fun _ h => by omega) (fun _ => ⟨rfl, rfl⟩) (fun _ _ _ _ _ _ _ _ _ _ _ => ⟨rfl, rfl⟩) (R.mu lev i hl)
  simp only [Gh.below, Gh.withO] at hj ⊢
  split at hj
  ·rename_i hll
   obtain ⟨h1, h2⟩ := E.lev l (by omega)
   rw [if_pos hll]
   exact ⟨by rw [← h2]; exact hj, (h1 j).1.symm, (h1 j).2.symm⟩
  ·omega
 ·have h1 := hlive lev i h
  have h2 := hlive lev' i' h'
  rw [(hβ lev i h1.1).1, (hβ lev' i' h2.1).1] at e
  exact R.inj lev i lev' i' h1.2 h2.2 e
 ·rcases hown q b h with ⟨t, rfl, h1⟩ | ⟨lev, i, k, rfl, h1⟩ <;> rcases hown q' b h' with ⟨t', rfl, h1'⟩ | ⟨lev', i', k', rfl, h1'⟩
  ·rfl
  ·have := R.own _ _ b h1 h1'; cases this
  ·have := R.own _ _ b h1 h1'; cases this
  ·exact R.own _ _ b h1 h1'
 ·have h2 := hlive lev i h'
  rw [(hβ lev i h2.1).1] at e
  rcases hown q b h with ⟨t, rfl, h1⟩ | ⟨lev', i', k', rfl, h1⟩
  ·exact R.apart _ b lev i h1 h2.2 e
  ·exact R.apart _ b lev i h1 h2.2 e
 ·have := (E.lev lev hl).2
  rw [show (G0.withO G.O).n lev = G0.n lev from rfl, ← this]
  exact R.nlt lev hl
 ·simp only [argS, Bool.false_eq_true, if_false]
  exact h0
 ·rcases hb with ⟨q, hb⟩ | ⟨lev, i, hb, e⟩
  ·rcases hown q b hb with ⟨t, rfl, h1⟩ | ⟨lev, i, k, rfl, h1⟩
   ·exact .inl ⟨_, h1⟩
   ·exact .inl ⟨_, h1⟩
  ·have h2 := hlive lev i hb
   exact .inr ⟨lev, i, h2.2, by rw [← (hβ lev i h2.1).1]; exact e⟩
theorem Le_cut0 (h0 : G.n L = 0) (hgt : ∀ l, L < l → G.n l = 0) : Le G w (G.cut L) w := by
 refine ⟨fun _ _ _ h hb => ⟨h, hb⟩, fun lev i h => ⟨?_, rfl, rfl⟩, fun _ _ _ h hc => ⟨h, hc⟩, fun b cur e fz h => ⟨cur, fz, h, rfl⟩⟩
 have hl : lev < L := by
  rcases Nat.lt_trichotomy lev L with h1 | h1 | h1
  ·exact h1
  ·subst h1; omega
  ·have := hgt lev h1; omega
 simp only [Gh.cut, if_pos hl]
 exact h
theorem plainArgs_mem : ∀ {l : List LV}, plainArgs l = true → ∀ x ∈ l, plainArg x = true
 | [], _, x, h => by simp at h
 | y :: r, hp, x, h => by
  simp only [plainArgs] at hp
  split at hp <;> try (simp at hp; done)
  rcases List.mem_cons.1 h with rfl | h
  ·assumption
  ·exact plainArgs_mem hp x h
theorem flat_cut {nl : Nat} {x : LV} {v : Value} (hf : flatRes x = true) (hr : LVR G w L nl x v) (hb : (G.n L = 0 ∧ ∀ l, L < l → G.n l = 0) ∨ belowRes L x = true) : LVR (G.cut L) w L 0 x v := by
 have one : ∀ {x : LV} {v : Value}, plainArg x = true → LVR G w L nl x v → ((G.n L = 0 ∧ ∀ l, L < l → G.n l = 0) ∨ belowRes1 L x = true) → LVR (G.cut L) w L 0 x v := by
  intro x v hp hr hb
  cases x <;> simp only [plainArg, Bool.false_eq_true] at hp <;> simp only [LVR] at hr ⊢
  ·rcases hb with ⟨h0, hgt⟩ | hb
   ·exact VR_mono (Le_cut0 h0 hgt) _ _ hr
   ·exact VR_cut _ _ hb hr
  ·rcases hb with ⟨h0, hgt⟩ | hb
   ·exact Owned_mono (Le_cut0 h0 hgt) (fun _ _ _ _ => ⟨rfl, rfl⟩) hr
   ·exact Owned_cut hb hr
 unfold flatRes at hf
 split at hf
 ·exact one rfl hr (hb.imp id (fun h => h))
 ·exact one rfl hr (hb.imp id (fun h => h))
 ·rename_i xs
  simp only [LVR] at hr ⊢
  obtain ⟨vs, e, hl⟩ := hr
  refine ⟨vs, e, ?_⟩
  have hb' : (G.n L = 0 ∧ ∀ l, L < l → G.n l = 0) ∨ ∀ x ∈ xs, belowRes1 L x = true := hb.imp id fun h => by simpa [belowRes] using h
  have hm := plainArgs_mem hf
  clear hb hf e
  generalize vs.toList = l at hl
  induction xs generalizing l with
  | nil => simpa [LVRL] using hl
  | cons x xs ih =>
   simp only [LVRL] at hl ⊢
   obtain ⟨v, r, e, h1, h2, h3⟩ := hl
   exact ⟨v, r, e, h1, one (hm x (by simp)) h2 (hb'.imp id fun h => h x (by simp)), ih (hb'.imp id fun h y hy => h y (List.mem_cons_of_mem _ hy)) (fun y hy => hm y (List.mem_cons_of_mem _ hy)) r h3⟩
 ·simp at hf
theorem Rel.retm (R : Rel G L s μ tm w) {tm' : Array Value} (hf : ∀ t, s.fr t = .cv .undef ∨ tm'.getD t undef = tm.getD t undef) :
  Rel G L s μ tm' w ∧ ∀ q b, OwnsAt G w s.fr tm' (μ ++ [s.lam]) q b ↔ OwnsAt G w s.fr tm (μ ++ [s.lam]) q b := by
 have hown : ∀ q b, OwnsAt G w s.fr tm' (μ ++ [s.lam]) q b ↔ OwnsAt G w s.fr tm (μ ++ [s.lam]) q b := by
  intro q b
  cases q with
  | fr t =>
   simp only [OwnsAt]
   rcases hf t with h | h
   ·rw [h]; simp [Owns]
   ·rw [h]
  | ob lev i k => exact Iff.rfl
 refine ⟨⟨R.lev, fun t => ?_, R.lam, R.mu, R.inj, fun l l' b h h' => R.own l l' b ((hown l b).1 h) ((hown l' b).1 h'), fun l b lev i h h' => R.apart l b lev i ((hown l b).1 h) h', R.nlt, R.nL, R.ngt⟩, hown⟩
 rcases hf t with h | h
 ·rw [h]; simp [LVR, VR]
 ·rw [h]; exact R.fr t
theorem finish_sound {fn : Func} {G0 : Gh} {w0 : World} {T : Nat → Prop} {out : Out} (hfk : finishK P fn.results.toList s μ = some out) (R' : Rel G L s μ tm w) (E' : Ext L T G0 w0 G w (TouchS G w s μ tm))
  (h0 : G0.n L = 0) (hgt : ∀ l, L < l → G0.n l = 0) : ∃ v, (results fn tm).run P w = .ok v w ∧ RetR L T G0 w0 out (.returned v) w := by
 unfold finishK at hfk
 obtain ⟨ys, hys, hfk⟩ := opt_some.1 hfk
 dsimp only at hfk
 obtain ⟨hfl, hfk⟩ := guardB_some.1 hfk
 obtain ⟨v, hv1, hr1, hr2⟩ := results_run R' hys
 have hout : out = .ret (resultA ys) μ ∧ ((G.n L = 0 ∧ ∀ l, L < l → G.n l = 0) ∨ belowRes L (resultA ys) = true) := by
  split at hfk
  ·rename_i hp
   simp only [Option.some.injEq] at hfk
   refine ⟨hfk.symm, .inl ⟨?_, R'.ngt⟩⟩
   have := R'.nL
   rw [hp] at this
   simpa using this
  ·obtain ⟨hbl, hfk⟩ := guardB_some.1 hfk
   simp only [Option.some.injEq] at hfk
   rw [R'.lev] at hbl
   exact ⟨hfk.symm, .inr hbl⟩
 obtain ⟨rfl, hbel⟩ := hout
 refine ⟨v, hv1, ?_⟩
 obtain ⟨R3, E3, _⟩ := R'.leave (vs := [resultA ys]) (tmr := #[v]) E' h0 hgt (fun j x hx => by
  cases j with
  | zero => simp only [List.getElem?_cons_zero, Option.some.injEq] at hx; subst hx; exact flat_cut hfl hr1 hbel
  | succ j => simp at hx) (fun j x b hx hob => by
  cases j with
  | zero => simp only [List.getElem?_cons_zero, Option.some.injEq] at hx; subst hx; exact ⟨hr2 b hob, rfl⟩
  | succ j => simp at hx)
 exact ⟨_, R3, E3⟩
theorem bodyK_sound (hm : P.follows .mixedOrders = true) (hrho : CallsOK P W0 ρ) (hloop : LoopsOK P W0 ρ) (hseg : SegsOK P W0 ρ) {H : Hints} {f : FuncId} {fn : Func} {c : Code} {args : List LV} {out : Out} (hf : P.funcs[f]? = some fn) (hb : fn.body = some c)
  (h : bodyK P ρ H fn c args μ = some out) : Meets P W0 f args μ out := by
 unfold bodyK at h
 obtain ⟨hg, h⟩ := guardB_some.1 h
 simp only [Bool.and_eq_true, Bool.not_eq_true'] at hg
 obtain ⟨⟨hg1, hg2⟩, hg3⟩ := hg
 have hg1 := Nat.le_of_ble_eq_true hg1
 refine ⟨⟨fn, c, hf, hb, hg3⟩, fun G w cargs hsz R hkn => ?_⟩
 refine calls_of_wp hf hb ?_
 have hsize : (cargs ++ Array.replicate (fn.ntmps - cargs.size) undef).size = fn.ntmps := by simp; omega
 obtain ⟨R1, hO⟩ := R.retm (tm' := cargs ++ Array.replicate (fn.ntmps - cargs.size) undef) fun t => by
  by_cases ht : t < cargs.size
  ·right
   simp [Array.getD_eq_getD_getElem?, Array.getElem?_append_left ht]
  ·left
   rw [argS_fr, List.getElem?_eq_none (by omega)]
   rfl
 have h0 : G.n μ.length = 0 := by simpa [argS] using R.nL
 refine execK_sound hm hrho hloop hseg (L := μ.length) (T := TouchS G w (argS args) μ cargs) (G0 := G) (w0 := w) (n := fn.ntmps) (ds := ⟨[], none⟩) c hg2 hkn h ⟨R1, Ext.refl G w fun b hb => ?_, hsize, ⟨rfl, fun _ _ e => by cases e⟩, h0⟩ ?_
 ·rcases hb with ⟨q, hb⟩ | hb
  ·exact .inl ⟨q, (hO q b).1 hb⟩
  ·exact .inr hb
 ·have fin : ∀ (s' : S) (μ' : Mu) (a' : Act) (w' : World) (G' : Gh), finishK P fn.results.toList s' μ' = some out → Since μ.length (TouchS G w (argS args) μ cargs) G w fn.ntmps ⟨[], none⟩ s' μ' a' w' G' →
    a'.defers = [] ∧ ∃ v, (results fn a'.tmps).run P w' = .ok v w' ∧ RetR μ.length (TouchS G w (argS args) μ cargs) G w out (.returned v) w' := by
   intro s' μ' a' w' G' hfk hs
   obtain ⟨R', E', _, hds, _⟩ := hs
   obtain ⟨v, h1, h2⟩ := finish_sound hfk R' E' h0 R.ngt
   exact ⟨hds.1, v, h1, h2⟩
  intro st e a' w' hst hr
  cases st with
  | norm s' μ' =>
   cases e <;> simp only [StR] at hr
   obtain ⟨G', hs⟩ := hr
   exact fin s' μ' a' w' G' hst hs
  | ret s' μ' =>
   cases e <;> simp only [StR] at hr
   obtain ⟨G', hs⟩ := hr
   exact fin s' μ' a' w' G' hst hs
  | exit i s' μ' => simp at hst
  | panic v s' μ' =>
   cases e <;> simp only [StR] at hr
   obtain ⟨G', pv, rfl, hv, R', E', _, hds, _⟩ := hr
   obtain ⟨hbl, hst⟩ := guardB_some.1 hst
   simp only [Option.some.injEq] at hst
   subst hst
   rw [R'.lev] at hbl
   refine ⟨hds.1, ?_⟩
   obtain ⟨R3, E3, hle⟩ := R'.leave (vs := []) (tmr := #[]) E' h0 R.ngt (fun j x hx => by simp at hx) (fun j x b hx => by simp at hx)
   exact ⟨_, pv, rfl, VR_mono hle _ _ (VR_cut _ _ hbl hv), R3, E3⟩
end
end Go.Abs

set_option linter.unusedVariables false
set_option linter.unusedSimpArgs false
namespace Go.Abs
open Go
section
variable {P : Program} {W0 : World} {ρ : Rho} {L : Nat} {G G' : Gh} {w w' : World} {s : S} {μ μ' : Mu} {tm : Array Value}
def thenQ (N : Act → World → Prop) (Q : Exit → Act → World → Prop) : Exit → Act → World → Prop
  | .normal, a, w => N a w
  | e, a, w => Q e a w
theorem wpOps_append {ops : Array Oper} {Q : Exit → Act → World → Prop} {l2 : List Nat} : ∀ {l1 : List Nat} {a : Act} {w : World}, wpOps P ops (thenQ (wpOps P ops Q l2) Q) l1 a w → wpOps P ops Q (l1 ++ l2) a w
  | [], a, w, h => h
  | i :: l1, a, w, h => by
    rw [List.cons_append, wpOps_cons]
    rw [wpOps_cons] at h
    have h := wpOp_mono (fun a w => wpOps_append (l1 := l1)) h
    unfold wpOp at h ⊢
    split at h
    · exact h
    · split at h
      · rename_i hw
        rw [if_pos hw]
        rcases h with h | ⟨h1, a', w', h2⟩
        · left
          unfold Oper.wp at h ⊢
          generalize (execOp a.eval _).run P w = r at *
          cases r with
          | ok n w' =>
            cases n <;> simp only [Oper.upon] at h ⊢ <;> first
              | exact h
              | (refine Go.Calls.mono h fun e w'' he => ?_
                 cases e with
                 | returned v => exact he
                 | panicked ch => exact he
                 | outgrown => obtain ⟨a', w', h2⟩ := he; exact ⟨a', w', h2⟩)
          | halt x w' => cases x <;> simp only [Oper.upon] at h ⊢ <;> exact h
        · exact .inr ⟨h1, a', w', h2⟩
      · rename_i hw
        rw [if_neg hw]
        exact h
theorem wpOpsS_of {ops : Array Oper} {Q : Exit → Act → World → Prop} {Q' : Exit → Act → List Frame → World → Prop} {cs : List Frame} (hQ : ¬ LetsOut Q) (hq : ∀ e a w, Q e a w → Q' e a cs w) : ∀ {l : List Nat} {a : Act} {w : World}, wpOps P ops Q l a w → wpOpsS P ops Q' l a cs w
  | [], a, w, h => hq _ _ _ h
  | i :: l, a, w, h => by
    simp only [wpOps] at h
    simp only [wpOpsS]
    cases ho : ops[i]? with
    | none => rw [ho] at h; exact wpOpsS_of hQ hq h
    | some o =>
      rw [ho] at h
      simp only at h ⊢
      split at h
      · rename_i hw
        rw [if_pos hw]
        rcases h with h | ⟨_, h⟩
        rotate_left
        · exact absurd h hQ
        unfold Oper.wp at h
        generalize (execOp a.eval o).run P w = r at *
        cases r with
        | ok n w' =>
          cases n with
          | value v => exact wpOpsS_of hQ hq h
          | skip => exact wpOpsS_of hQ hq h
          | defer d => exact wpOpsS_of hQ hq h
          | enter f args =>
            refine Go.Calls.mono h fun e w'' he => ?_
            cases e with
            | returned v => exact wpOpsS_of hQ hq he
            | panicked ch => exact hq _ _ _ he
            | outgrown => exact absurd he hQ
          | row row args => exact Rows.mono h fun v w'' he => wpOpsS_of hQ hq he
          | _ => exact h.elim
        | halt x w' =>
          cases x with
          | panic v => exact hq _ _ _ h
          | _ => exact h.elim
      · rename_i hw
        rw [if_neg hw]
        exact wpOpsS_of hQ hq h
theorem wpS_mono {c : Code} {Q Q' : Exit → Act → List Frame → World → Prop} {a : Act} {cs : List Frame} {w : World} (hq : ∀ e a cs w, Q e a cs w → Q' e a cs w) (h : c.wpS P Q a cs w) : c.wpS P Q' a cs w :=
  fun b k hb hr => let ⟨e, a', cs', w', q, r⟩ := h b k hb hr; ⟨e, a', cs', w', hq _ _ _ _ q, r⟩
def modeOf (pv : Option CV) (cpv : Value) : FrameMode := match pv with | some _ => .panicking [{ v := cpv, recovered := false }] | none => .returning
def modeBehind (pv : Option CV) (cpv : Value) : FrameMode := match pv with | some _ => .panicking [{ v := cpv, recovered := true }] | none => .returning
theorem settle_behind {pv : Option CV} {cpv : Value} : settle (modeBehind pv cpv) = .returning := by
  cases pv <;> simp [modeBehind, settle]
def MeetsD (P : Program) (W0 : World) (f : FuncId) (pv : Option CV) (args : List LV) (μ μ' : Mu) : Prop :=
  (∃ fn c, P.funcs[f]? = some fn ∧ fn.body = some c ∧ (fn.name == "runtime.NumGoroutine") = false) ∧
  ∀ (G : Gh) (w : World) (cargs : Array Value) (cpv : Value), cargs.size = args.length → Rel G μ.length (argS args) μ cargs w → (∀ v, pv = some v → VR G w v cpv) → Kn W0 w (TouchS G w (argS args) μ cargs) →
    CallsD P f cargs (modeOf pv cpv) w fun e u' w' => ∃ v, e = .returned v ∧ u' = modeBehind pv cpv ∧
      ∃ O', Rel (G.withO O') μ.length (argS []) μ' #[] w' ∧ Ext μ.length (TouchS G w (argS args) μ cargs) G w (G.withO O') w' (TouchS (G.withO O') w' (argS []) μ' #[])
def DcallsOK (P : Program) (W0 : World) (ρ : Rho) : Prop := ∀ f pv args μ μ', ρ.dcall f pv args μ = some μ' → MeetsD P W0 f pv args μ μ'
theorem isRecover_spec {o : Oper} (h : isRecover o = true) : o.guard = none ∧ ∃ c, o.op = .call c ∧ c.callee = .builtin .recover := by
  unfold isRecover at h
  split at h <;> try (cases h; done)
  rename_i c hg ho
  split at h <;> try (cases h; done)
  rename_i hc
  exact ⟨hg, c, ho, hc⟩
theorem dbodyK_sound (hm : P.follows .mixedOrders = true) (hrho : CallsOK P W0 ρ) (hloop : LoopsOK P W0 ρ) (hseg : SegsOK P W0 ρ) {H : Hints} {f : FuncId} {fn : Func} {c : Code} {pv : Option CV} {args : List LV} (hf : P.funcs[f]? = some fn) (hb : fn.body = some c)
    (h : dbodyK P ρ H fn c pv args μ = some μ') : MeetsD P W0 f pv args μ μ' := by
  unfold dbodyK at h
  split at h <;> try (cases h; done)
  rename_i id ops draw b
  split at h <;> try (cases h; done)
  split at h <;> try (cases h; done)
  rename_i o ho
  obtain ⟨hg, h⟩ := guardB_some.1 h
  simp only [Bool.and_eq_true, Bool.not_eq_true'] at hg
  obtain ⟨⟨⟨⟨⟨hg1, hg2⟩, hg3⟩, hg4⟩, hg5⟩, hg6⟩ := hg
  have hg1 := Nat.le_of_ble_eq_true hg1
  refine ⟨⟨fn, _, hf, hb, hg4⟩, fun G w cargs cpv hsz R hpv hkn => ?_⟩
  obtain ⟨hgu, cc, hop, hcal⟩ := isRecover_spec hg5
  have hsize : (cargs ++ Array.replicate (fn.ntmps - cargs.size) undef).size = fn.ntmps := by simp; omega
  obtain ⟨R1, hO⟩ := R.retm (tm' := cargs ++ Array.replicate (fn.ntmps - cargs.size) undef) fun t => by
    by_cases ht : t < cargs.size
    · right
      simp [Array.getD_eq_getD_getElem?, Array.getElem?_append_left ht]
    · left
      rw [argS_fr, List.getElem?_eq_none (by omega)]
      rfl
  have h0 : G.n μ.length = 0 := by simpa [argS] using R.nL
  have E1 : Ext μ.length (TouchS G w (argS args) μ cargs) G w G w (TouchS G w (argS args) μ (cargs ++ Array.replicate (fn.ntmps - cargs.size) undef)) := Ext.refl G w fun b hb => by
    rcases hb with ⟨q, hb⟩ | hb
    · exact .inl ⟨q, (hO q b).1 hb⟩
    · exact .inr hb
  refine callsD_of_wpS hf hb fun c₀ cs hc₀ => ?_
  let A : Act := { tmps := cargs ++ Array.replicate (fn.ntmps - cargs.size) undef, defers := [] }
  let rv : Value := match pv with | some _ => cpv | none => .nilIface
  let c1 : Frame := { c₀ with mode := modeBehind pv cpv }
  have hds : ∀ (i : Nat) (o : Oper), ops[i]? = some o → ∀ d, o.dst = some d → d < fn.ntmps ∧ (Keep.mk [] none).lets d := fun i o ho d hd => opsDst_get (ds := ⟨[], none⟩) hg2 (by simpa using ho) d hd
  obtain ⟨R2, E2⟩ := step_done (a := A) (dst := o.dst) (v := recV pv) (cv := rv) (w := w) R1 E1 (by
    cases pv with
    | none => simp [recV, rv, LVR, VR]
    | some v => simpa [recV, rv, LVR] using hpv v rfl) (fun b hb => by cases pv <;> simp [recV, Owns] at hb) (fun d hd => by rw [show A.tmps = _ from rfl, hsize]; exact (hds 0 o ho d hd).1)
  have hpos : 0 < ops.size := (Array.getElem?_eq_some_iff.1 ho).1
  have hrange : List.range ops.size = 0 :: List.range' 1 (ops.size - 1) := by
    rw [List.range_eq_range']
    conv => lhs; rw [show ops.size = (ops.size - 1) + 1 by omega]
    rw [List.range'_succ]
  let Q : Exit → Act → World → Prop := fun e a w' => match e with
    | .normal | .ret => a.defers = [] ∧ (∃ v, (results fn a.tmps).run P w' = .ok v w') ∧ ∃ O', Rel (G.withO O') μ.length (argS []) μ' #[] w' ∧ Ext μ.length (TouchS G w (argS args) μ cargs) G w (G.withO O') w' (TouchS (G.withO O') w' (argS []) μ' #[])
    | _ => False
  have hlets : ∀ N, ¬ LetsOut (thenQ N Q) := fun N ⟨a, w, h⟩ => h
  have fin : ∀ (s' : S) (a' : Act) (w' : World) (G' : Gh), Since μ.length (TouchS G w (argS args) μ cargs) G w fn.ntmps ⟨[], none⟩ s' μ' a' w' G' →
      a'.defers = [] ∧ (∃ v, (results fn a'.tmps).run P w' = .ok v w') ∧ ∃ O', Rel (G.withO O') μ.length (argS []) μ' #[] w' ∧ Ext μ.length (TouchS G w (argS args) μ cargs) G w (G.withO O') w' (TouchS (G.withO O') w' (argS []) μ' #[]) := by
    intro s' a' w' G' hs
    obtain ⟨R', E', _, hd, _⟩ := hs
    refine ⟨hd.1, ?_, ?_⟩
    · have he : fn.results = #[] := by simpa using hg6
      exact ⟨.tuple #[], by simp [results, he]⟩
    · obtain ⟨R3, E3, _⟩ := R'.leave (vs := []) (tmr := #[]) E' h0 R.ngt (fun j x hx => by simp at hx) (fun j x b hx => by simp at hx)
      exact ⟨_, R3, E3⟩
  have hbw : ∀ (s' : S) (μ1 : Mu) (a' : Act) (w' : World) (G' : Gh), (execK P ρ H b s' μ1 fun st => match st with | .norm s μ => some μ | .ret s μ => some μ | _ => none) = some μ' → Since μ.length (TouchS G w (argS args) μ cargs) G w fn.ntmps ⟨[], none⟩ s' μ1 a' w' G' → b.wp P Q a' w' := by
    intro s' μ1 a' w' G' hx hs
    refine execK_sound hm hrho hloop hseg (L := μ.length) (G0 := G) (w0 := w) (n := fn.ntmps) (ds := ⟨[], none⟩) b hg3 hkn hx hs fun st e a2 w2 hst hr => ?_
    cases st with
    | norm s2 μ2 =>
      simp only [Option.some.injEq] at hst
      subst hst
      cases e <;> simp only [StR] at hr
      obtain ⟨G2, hs2⟩ := hr
      exact fin s2 a2 w2 G2 hs2
    | ret s2 μ2 =>
      simp only [Option.some.injEq] at hst
      subst hst
      cases e <;> simp only [StR] at hr
      obtain ⟨G2, hs2⟩ := hr
      exact fin s2 a2 w2 G2 hs2
    | exit i s2 μ2 => simp at hst
    | panic v s2 μ2 => simp at hst
  have hops : wpOps P ops (thenQ (b.wp P Q) Q) (List.range' 1 (ops.size - 1)) (A.put o.dst rv) w := by
    refine opsK_sound (L := μ.length) (G0 := G) (w0 := w) (T := TouchS G w (argS args) μ cargs) (n := fn.ntmps) (ds := ⟨[], none⟩) (r := μ') hrho hds hkn ?_ ?_ _ h R2 E2 (by rw [(put_size A o.dst rv).1]; exact hsize) (Keep.put ⟨rfl, fun _ _ e => by cases e⟩ fun d hd => (hds 0 o ho d hd).2)
    · intro s1 μ1 a1 w1 G1 hx R' E' hn' hd'
      exact hbw s1 μ1 a1 w1 G1 hx ⟨R', E', hn', hd', h0⟩
    · intro v s1 μ1 pv1 a1 w1 G1 hx
      cases hx
  refine wpS_seq (wpS_region ?_)
  rw [hrange]
  simp only [wpOpsS, ho]
  have hw : Region.wanted o (yielded ops A.tmps) = true := by simp [Region.wanted, hgu]
  rw [if_pos hw]
  have hrun : (execOp A.eval o).run P w = .ok .recover w := by
    simp [execOp, hop, resolve, hcal, invoke, builtin]
  have hrec : recoverD (c₀ :: cs) = (match pv with | some _ => some (cpv, c1 :: cs) | none => none) := by
    cases pv with
    | none => simp [recoverD, hc₀, modeOf]
    | some v => simp [recoverD, hc₀, modeOf, c1, modeBehind]
  rw [hrun]
  simp only
  have key : wpOpsS P ops (Exit.thenS (b.wpS P (bodyPostS P fn c₀ cs fun e u' w' => ∃ v, e = .returned v ∧ u' = modeBehind pv cpv ∧
      ∃ O', Rel (G.withO O') μ.length (argS []) μ' #[] w' ∧ Ext μ.length (TouchS G w (argS args) μ cargs) G w (G.withO O') w' (TouchS (G.withO O') w' (argS []) μ' #[])))
      (bodyPostS P fn c₀ cs fun e u' w' => ∃ v, e = .returned v ∧ u' = modeBehind pv cpv ∧
      ∃ O', Rel (G.withO O') μ.length (argS []) μ' #[] w' ∧ Ext μ.length (TouchS G w (argS args) μ cargs) G w (G.withO O') w' (TouchS (G.withO O') w' (argS []) μ' #[])))
      (List.range' 1 (ops.size - 1)) (A.put o.dst rv) (c1 :: cs) w := by
    refine wpOpsS_of (hlets _) ?_ hops
    intro e a1 w1 hq
    cases e with
    | normal =>
      simp only [Exit.thenS]
      refine wpS_mono ?_ (wpS_of_wp (cs := c1 :: cs) (Q := fun e a cs' w => cs' = c1 :: cs ∧ Q e a w) (Code.wp_mono (fun e a w h => ⟨rfl, h⟩) hq))
      rintro e a2 cs2 w2 ⟨rfl, hq2⟩
      cases e with
      | normal => obtain ⟨h1, ⟨v, h2⟩, h3⟩ := hq2; exact ⟨h1, _, rfl, v, h2, v, rfl, rfl, h3⟩
      | ret => obtain ⟨h1, ⟨v, h2⟩, h3⟩ := hq2; exact ⟨h1, _, rfl, v, h2, v, rfl, rfl, h3⟩
      | _ => exact hq2.elim
    | ret => obtain ⟨h1, ⟨v, h2⟩, h3⟩ := hq; exact ⟨h1, _, rfl, v, h2, v, rfl, rfl, h3⟩
    | _ => exact hq.elim
  cases pv with
  | none =>
    rw [hrec]
    have e1 : c1 = c₀ := by
      simp only [c1, modeBehind]
      rw [show FrameMode.returning = c₀.mode from hc₀.symm]
    rw [e1] at key
    exact key
  | some v =>
    rw [hrec]
    exact key
theorem isDefer_spec {t : Nat} {o : Oper} (h : isDefer t o = true) : o.guard = none ∧ o.dst = none ∧ ∃ c, o.op = .defer c ∧ c.callee = .value (.tmp t) ∧ c.args = #[] := by
  unfold isDefer at h
  split at h <;> try (cases h; done)
  rename_i c hg hd ho
  split at h <;> try (cases h; done)
  rename_i u hc
  split at h <;> try (cases h; done)
  rename_i ha
  have := Nat.eq_of_beq_eq_true h
  subst this
  exact ⟨hg, hd, c, ho, hc, by simpa using ha⟩
theorem deferred_state {T : Nat → Prop} {G0 : Gh} {w0 : World} (hd : DcallsOK P W0 ρ) {t : Nat} {pv : Option CV} {α : Type} {k : S → Mu → Option α} {r : α} (h : deferK ρ t pv s μ k = some r) (R : Rel G L s μ tm w) (E0 : Ext L T G0 w0 G w (TouchS G w s μ tm))
    (hkn : Kn W0 w0 T) {cpv : Value} (hpv : ∀ v, pv = some v → VR G w v cpv) :
    ∃ f vs, tm.getD t undef = .func (.func f) #[] vs ∧ (∃ fn c, P.funcs[f]? = some fn ∧ fn.body = some c ∧ (fn.name == "runtime.NumGoroutine") = false) ∧
      CallsD P f vs (modeOf pv cpv) w fun e u' w' => ∃ v, e = .returned v ∧ u' = modeBehind pv cpv ∧ ∃ s' μ' G', k s' μ' = some r ∧ Rel G' L s' μ' tm w' ∧ Ext L T G0 w0 G' w' (TouchS G' w' s' μ' tm) := by
  unfold deferK at h
  split at h <;> try (cases h; done)
  rename_i f caps hfr
  obtain ⟨args', ha, h⟩ := opt_some.1 h
  obtain ⟨l, hlm, h⟩ := opt_some.1 h
  obtain ⟨μ2, hdc, h⟩ := opt_some.1 h
  obtain ⟨q, hq, hk9⟩ := opt_some.1 h
  have hq' := popMu_some hq
  clear hq h
  subst hq'
  have hv := R.fr t
  rw [hfr] at hv
  simp only [LVR] at hv
  obtain ⟨vs, hvs, hcaps⟩ := hv
  obtain ⟨hfn, hM⟩ := hd _ _ _ _ _ hdc
  refine ⟨f, vs, hvs, hfn, ?_⟩
  have hμ := R.lev
  rw [hμ] at ha hlm
  obtain ⟨hcl, hcg⟩ := LVRL_get hcaps
  have A : ArgsR G w L s tm [] caps vs := by
    refine ⟨by simpa using hcl.symm, fun j x hx => ?_, fun j x b hx hob => ?_⟩
    · obtain ⟨v, hv, hr, _⟩ := hcg j x hx
      have : vs.getD j undef = v := by
        rw [Array.getElem?_toList] at hv
        simp [Array.getD_eq_getD_getElem?, hv]
      rw [this]
      exact hr
    · obtain ⟨v, hv, hr, hne⟩ := hcg j x hx
      exact absurd hob (Owns_not hne)
  obtain ⟨Re, hown, hlive⟩ := R.enterP A ha hlm
  have hT : ∀ b, TouchS (G.push L s.lam.length) w (argS args') (μ ++ [l]) vs b → ∀ t, ¬ Owns (s.fr t) (tm.getD t undef) b := by
    rintro b (⟨q, hb⟩ | ⟨lev, i, hb, rfl⟩) t ht
    · rcases hown q b hb with ⟨j, x, rfl, hx, ho⟩ | ⟨lev, i, k, rfl, ho⟩
      · obtain ⟨⟨u, hu, _⟩, _⟩ := A.own j x b hx ho
        simp at hu
      · have := R.own (.fr t) _ b ht ho
        cases this
    · exact R.apart (.fr t) _ lev i ht (hlive lev i hb) rfl
  have hT0 : ∀ b, TouchS (G.push L s.lam.length) w (argS args') (μ ++ [l]) vs b → TouchS G w s μ tm b := by
    rintro b (⟨q, hb⟩ | ⟨lev, i, hb, rfl⟩)
    · rcases hown q b hb with ⟨j, x, rfl, hx, ho⟩ | ⟨lev, i, k, rfl, ho⟩
      · obtain ⟨⟨u, hu, _⟩, _⟩ := A.own j x b hx ho
        simp at hu
      · exact .inl ⟨_, ho⟩
    · exact .inr ⟨lev, i, hlive lev i hb, rfl⟩
  have hnL : ∀ i, i < G.n L → i < s.lam.length := fun i hi => by
    have := R.nL
    split at this <;> omega
  have hcall := hM (G.push L s.lam.length) w vs cpv (by rw [A.size, (toOuters_get ha).1]) (by rw [List.length_append, hμ]; exact Re) (fun v e => VR_mono (Le_push hnL) v _ (hpv v e)) ((hkn.ext E0).mono hT0)
  rw [show (μ ++ [l]).length = L + 1 by simp [hμ]] at hcall
  refine hcall.mono ?_
  rintro e u' w' ⟨v, rfl, rfl, O', Rc, E⟩
  refine ⟨v, rfl, rfl, { s with lam := q.2, pushed := true }, q.1, (G.push L s.lam.length).withO O', hk9, ?_⟩
  obtain ⟨R2, h2, h3⟩ := R.mergeP (O' := O') hT rfl Rc E
  have hin : ∀ b, TouchS ((G.push L s.lam.length).withO O') w' (argS []) (q.1 ++ [q.2]) #[] b → (TouchS G w s μ tm b ∨ w.heap.size ≤ b) := fun b hb => (E.grow b hb).imp (hT0 b) id
  refine ⟨R2, E0.trans ⟨(Le_push hnL).trans E.le, E.os, E.tape, E.output, E.size, fun b hb hn => E.keep b hb fun hh => hn (hT0 b hh), fun b hb => ?_, fun lv hlv => ?_⟩⟩
  · rcases hb with ⟨q', hb⟩ | ⟨lev, i, hb, rfl⟩
    · rcases h2 q' b hb with ⟨_, _, h4⟩ | ⟨_, h4⟩
      · exact .inl (.inl ⟨q', h4⟩)
      · exact hin b (.inl ⟨q', h4⟩)
    · exact hin _ (.inr ⟨lev, i, h3 lev i hb, rfl⟩)
  · refine ⟨fun _ => ⟨rfl, rfl⟩, ?_⟩
    simp only [Gh.withO, Gh.push]
    rw [if_neg (by omega)]
theorem bodyDK_sound (hm : P.follows .mixedOrders = true) (hrho : CallsOK P W0 ρ) (hloop : LoopsOK P W0 ρ) (hseg : SegsOK P W0 ρ) (hdc : DcallsOK P W0 ρ) {H : Hints} {f : FuncId} {fn : Func} {c : Code} {t : Nat} {args : List LV} {out : Out} (hf : P.funcs[f]? = some fn) (hb : fn.body = some c)
    (h : bodyDK P ρ H fn c t args μ = some out) : Meets P W0 f args μ out := by
  unfold bodyDK at h
  split at h <;> try (cases h; done)
  rename_i ca id ops draw cb
  split at h <;> try (cases h; done)
  split at h <;> try (cases h; done)
  rename_i o ho
  obtain ⟨hg, h⟩ := guardB_some.1 h
  simp only [Bool.and_eq_true, Bool.not_eq_true'] at hg
  obtain ⟨⟨⟨⟨⟨hg1, hg2⟩, hg3⟩, hg4⟩, hg5⟩, hg6⟩ := hg
  have hg1 := Nat.le_of_ble_eq_true hg1
  obtain ⟨hgu, hdst, cc, hop, hcal, hargs⟩ := isDefer_spec hg6
  refine ⟨⟨fn, _, hf, hb, hg5⟩, fun G w cargs hsz R hkn => ?_⟩
  refine calls_of_wp_defers hf hb ?_
  have hsize : (cargs ++ Array.replicate (fn.ntmps - cargs.size) undef).size = fn.ntmps := by simp; omega
  obtain ⟨R1, hO⟩ := R.retm (tm' := cargs ++ Array.replicate (fn.ntmps - cargs.size) undef) fun t => by
    by_cases ht : t < cargs.size
    · right
      simp [Array.getD_eq_getD_getElem?, Array.getElem?_append_left ht]
    · left
      rw [argS_fr, List.getElem?_eq_none (by omega)]
      rfl
  have h0 : G.n μ.length = 0 := by simpa [argS] using R.nL
  have E1 : Ext μ.length (TouchS G w (argS args) μ cargs) G w G w (TouchS G w (argS args) μ (cargs ++ Array.replicate (fn.ntmps - cargs.size) undef)) := Ext.refl G w fun b hb => by
    rcases hb with ⟨q, hb⟩ | hb
    · exact .inl ⟨q, (hO q b).1 hb⟩
    · exact .inr hb
  have hpos : 0 < ops.size := by
    have := (Array.getElem?_eq_some_iff.1 ho).1
    omega
  have hrange : List.range ops.size = List.range (ops.size - 1) ++ [ops.size - 1] := by
    conv => lhs; rw [show ops.size = (ops.size - 1) + 1 by omega]
    rw [List.range_succ]
  have fin : ∀ (pv : Option CV) (cpv : Value) (s' : S) (μ' : Mu) (a' : Act) (w' : World) (G' : Gh) (vs0 : Value), deferK ρ t pv s' μ' (fun s μ => finishK P fn.results.toList s μ) = some out → (∀ v, pv = some v → VR G' w' v cpv) →
      ∀ d : Deferred, (∀ f vs, vs0 = .func (.func f) #[] vs → d = { target := .fn (.func f) vs, args := #[] }) → Since μ.length (TouchS G w (argS args) μ cargs) G w fn.ntmps ⟨[d], some (t, vs0)⟩ s' μ' a' w' G' →
      Leaves P fn a'.tmps (RetR μ.length (TouchS G w (argS args) μ cargs) G w out) a'.defers (modeOf pv cpv) w' := by
    intro pv cpv s' μ' a' w' G' vs0 hdk hpv d hd hs
    obtain ⟨R', E', _, ⟨hk1, hk2⟩, _⟩ := hs
    obtain ⟨f', vs, hval, ⟨fn', c', hf', hb', hn'⟩, hcall⟩ := deferred_state hdc hdk R' E' hkn hpv
    have hv0 := hk2 t vs0 rfl
    rw [hval] at hv0
    have hd := hd f' vs hv0.symm
    subst hd
    rw [hk1]
    refine ⟨by cases pv <;> simp [modeOf], .func f', vs, f', vs, rfl, ?_, ?_⟩
    · simp only [invoke, callFunc, Sem.run_bind, run_program, Result.andThen_ok, hf', hn', hb', Option.isNone_some, Bool.false_eq_true, if_false, Array.empty_append, Sem.run_pure]
    · refine hcall.mono ?_
      rintro e u' w2 ⟨v, rfl, rfl, s2, μ2, G2, hk, R2, E2⟩
      simp only
      rw [settle_behind]
      simp only [Leaves]
      exact finish_sound hk R2 E2 h0 R.ngt
  have hbw : ∀ (s' : S) (μ1 : Mu) (a' : Act) (w' : World) (G' : Gh) (vs0 : Value), execK P ρ H cb s' μ1 (endD P ρ t fn.results.toList) = some out →
      ∀ d : Deferred, (∀ f vs, vs0 = .func (.func f) #[] vs → d = { target := .fn (.func f) vs, args := #[] }) → Since μ.length (TouchS G w (argS args) μ cargs) G w fn.ntmps ⟨[d], some (t, vs0)⟩ s' μ1 a' w' G' →
      cb.wp P (bodyPostD P fn (RetR μ.length (TouchS G w (argS args) μ cargs) G w out)) a' w' := by
    intro s' μ1 a' w' G' vs0 hx d hd hs
    refine execK_sound hm hrho hloop hseg (L := μ.length) (G0 := G) (w0 := w) (n := fn.ntmps) (ds := ⟨[d], some (t, vs0)⟩) cb hg4 hkn hx hs fun st e a2 w2 hst hr => ?_
    cases st with
    | norm s2 μ2 =>
      cases e <;> simp only [StR] at hr
      obtain ⟨G2, hs2⟩ := hr
      exact fin none undef s2 μ2 a2 w2 G2 vs0 hst (fun v hv => by cases hv) d hd hs2
    | ret s2 μ2 =>
      cases e <;> simp only [StR] at hr
      obtain ⟨G2, hs2⟩ := hr
      exact fin none undef s2 μ2 a2 w2 G2 vs0 hst (fun v hv => by cases hv) d hd hs2
    | exit i s2 μ2 => simp [endD] at hst
    | panic v s2 μ2 =>
      cases e <;> simp only [StR] at hr
      obtain ⟨G2, pv, rfl, hv, hs2⟩ := hr
      exact fin (some v) pv s2 μ2 a2 w2 G2 vs0 hst (fun v' hv' => by injection hv' with hv'; subst hv'; exact hv) d hd hs2
  have hds : ∀ (i : Nat) (o : Oper), ops[i]? = some o → ∀ d, o.dst = some d → d < fn.ntmps ∧ (Keep.mk [] none).lets d := fun i o ho d hd => opsDst_get (ds := ⟨[], none⟩) hg3 (by simpa using ho) d hd
  refine wp_seq (execK_sound hm hrho hloop hseg (L := μ.length) (T := TouchS G w (argS args) μ cargs) (G0 := G) (w0 := w) (n := fn.ntmps) (ds := ⟨[], none⟩) ca hg2 hkn h ⟨R1, E1, hsize, ⟨rfl, fun _ _ e => by cases e⟩, h0⟩ fun st e a1 w1 hst hr => ?_)
  cases st with
  | norm s1 μ1 =>
    cases e <;> simp only [StR] at hr
    obtain ⟨G1, R2, E2, hn2, hk2, _⟩ := hr
    refine wp_seq (wp_region ?_)
    rw [hrange]
    refine wpOps_append ?_
    refine opsK_sound (L := μ.length) (G0 := G) (w0 := w) (T := TouchS G w (argS args) μ cargs) (n := fn.ntmps) (ds := ⟨[], none⟩) (r := out) hrho hds hkn ?_ ?_ _ hst R2 E2 hn2 hk2
    · intro s3 μ3 a3 w3 G3 hx R3 E3 hn3 hk3
      simp only [thenQ, wpOps, ho]
      have hw : Region.wanted o (yielded ops a3.tmps) = true := by simp [Region.wanted, hgu]
      rw [if_pos hw]
      left
      have hval : ∃ (dd : Deferred), (execOp a3.eval o).run P w3 = .ok (.defer dd) w3 ∧ ∀ f vs, a3.tmps.getD t undef = .func (.func f) #[] vs → dd = { target := .fn (.func f) vs, args := #[] } := by
        obtain ⟨hic, _⟩ := guardB_some.1 hx
        have hv := R3.fr t
        revert hic hv
        generalize s3.fr t = q
        intro hic hv
        cases q <;> simp only [isClo, Bool.false_eq_true] at hic
        rename_i f0 caps
        simp only [LVR] at hv
        obtain ⟨vs, hvs, _⟩ := hv
        refine ⟨{ target := .fn (.func f0) vs, args := #[] }, ?_, fun f1 vs1 e => ?_⟩
        · have : a3.eval (.tmp t) = .func (.func f0) #[] vs := hvs
          simp [execOp, hop, resolve, hcal, hargs, this, Deferred.ofValue]
        · rw [hvs] at e
          injection e with e1 e2 e3
          injection e1 with e1
          rw [e1, e3]
      obtain ⟨dd, hrun, hdd⟩ := hval
      unfold Oper.wp
      rw [hrun, Oper.upon_defer, hdst]
      simp only [Act.put, Exit.then]
      exact hbw s3 μ3 { a3 with defers := dd :: a3.defers } w3 G3 (a3.tmps.getD t undef) (guardB_some.1 hx).2 dd hdd ⟨R3, E3, hn3, ⟨by rw [hk3.1], fun t' v' e => by injection e with e; injection e with e1 e2; subst e1; exact e2⟩, h0⟩
    · intro v s3 μ3 pv3 a3 w3 G3 hx
      cases hx
  | exit i s1 μ1 => simp at hst
  | ret s1 μ1 => simp at hst
  | panic v s1 μ1 => simp at hst
def PrimsOK (E : Env) (W0 : World) : Prop := ∀ f g, E.prim f = some g → ∀ args μ out, g args μ = some out → Meets E.P W0 f args μ out
theorem evn_sound {E : Env} (hm : E.P.follows .mixedOrders = true) (hp : PrimsOK E W0) : ∀ n, CallsOK E.P W0 (evn E n) ∧ LoopsOK E.P W0 (evn E n) ∧ SegsOK E.P W0 (evn E n) ∧ DcallsOK E.P W0 (evn E n)
  | 0 => ⟨fun f args μ out h => by simp [evn] at h, fun H lv c s μ st h => by simp [evn] at h, fun H lv c s μ st h => by simp [evn] at h, fun f pv args μ μ' h => by simp [evn] at h⟩
  | n + 1 => by
    obtain ⟨h1, h2, h3, h4⟩ := evn_sound hm hp n
    refine ⟨fun f args μ out h => ?_, fun H lv c s μ st h L G w a Q T G0 w0 k ds hc hkn hs hQ => roundK_sound hm h1 h2 h3 h hc hkn hs hQ, fun H lv c s μ st h L G w a Q T G0 w0 k ds hc hkn hs hQ => segK_sound hm h1 h2 h3 h hc hkn hs hQ, fun f pv args μ μ' h => ?_⟩
    · simp only [evn, callStep] at h
      split at h
      · rename_i g hg
        exact hp f g hg args μ out h
      · split at h <;> try (simp at h; done)
        rename_i fn hf
        split at h <;> try (simp at h; done)
        rename_i c hb
        split at h
        · exact bodyK_sound hm h1 h2 h3 hf hb h
        · exact bodyDK_sound hm h1 h2 h3 h4 hf hb h
    · simp only [evn, dcallStep] at h
      split at h <;> try (simp at h; done)
      rename_i fn hf
      split at h <;> try (simp at h; done)
      rename_i c hb
      exact dbodyK_sound hm h1 h2 h3 hf hb h
end
end Go.Abs

set_option linter.unusedVariables false
set_option linter.unusedSimpArgs false
namespace Go.Abs
open Go
def Lim {β : Type} (x : Nat → Option β) (y : Option β) : Prop := ∀ r, y = some r → ∃ n, ∀ m, n ≤ m → x m = some r
section
variable {α β γ : Type}
theorem Lim.const (y : Option β) : Lim (fun _ => y) y := fun r h => ⟨0, fun _ _ => h⟩
theorem Lim.opt {x : Nat → Option α} {y : Option α} {k : Nat → α → Option β} {kω : α → Option β} (hx : Lim x y) (hk : ∀ a, Lim (fun n => k n a) (kω a)) : Lim (fun n => opt (x n) (k n)) (opt y kω) := by
 intro r h
 obtain ⟨a, h1, h2⟩ := opt_some.1 h
 obtain ⟨n, hn⟩ := hx a h1
 obtain ⟨m, hm⟩ := hk a r h2
 exact ⟨max n m, fun q hq => opt_some.2 ⟨a, hn q (by omega), hm q (by omega)⟩⟩
theorem Lim.opt' {x : Option α} {k : Nat → α → Option β} {kω : α → Option β} (hk : ∀ a, Lim (fun n => k n a) (kω a)) : Lim (fun n => Abs.opt x (k n)) (Abs.opt x kω) := Lim.opt (.const x) hk
theorem Lim.guard {b : Bool} {k : Nat → Option β} {kω : Option β} (hk : Lim k kω) : Lim (fun n => guardB b (k n)) (guardB b kω) := by
 cases b
 ·exact .const _
 ·exact hk
theorem Lim.cond {b : Bool} {k l : Nat → Option β} {kω lω : Option β} (hk : Lim k kω) (hl : Lim l lω) : Lim (fun n => cond b (k n) (l n)) (cond b kω lω) := by
 cases b
 ·exact hl
 ·exact hk
theorem Lim.none : Lim (fun _ => (none : Option β)) none := .const _
theorem Lim.callK {x : Nat → Option Out} {y : Option Out} {k : Nat → LV → Mu → Option β} {kω : LV → Mu → Option β} {p : Nat → CV → Mu → Option β} {pω : CV → Mu → Option β} (hx : Lim x y)
  (hk : ∀ v μ, Lim (fun n => k n v μ) (kω v μ)) (hp : ∀ v μ, Lim (fun n => p n v μ) (pω v μ)) : Lim (fun n => Abs.callK (x n) (k n) (p n)) (Abs.callK y kω pω) := by
 unfold Abs.callK
 refine Lim.opt hx fun a => ?_
 cases a with
 | ret v μ => exact hk v μ
 | panic v μ => exact hp v μ
theorem lim_cellK {d : TypeDesc} {x : LV} {k : Nat → CV → Option β} {kω : CV → Option β} (hk : ∀ c, Lim (fun n => k n c) (kω c)) : Lim (fun n => cellK d x (k n)) (cellK d x kω) := by
 unfold cellK
 cases d <;> exact Lim.opt' fun _ => hk _
theorem lim_cellsK : ∀ {ds : List TypeDesc} {cs : List CV} {k : Nat → List CV → Option β} {kω : List CV → Option β} (hk : ∀ c, Lim (fun n => k n c) (kω c)), Lim (fun n => cellsK ds cs (k n)) (cellsK ds cs kω)
 | [], cs, k, kω, hk => by unfold cellsK; exact Lim.opt' fun _ => hk _
 | d :: ds, cs, k, kω, hk => by
  unfold cellsK
  exact Lim.opt' fun _ => lim_cellK fun _ => lim_cellsK fun _ => hk _
variable {P : Program}
theorem lim_typedL {t : TypeId} {x : LV} {k : Nat → CV → Option β} {kω : CV → Option β} (hk : ∀ c, Lim (fun n => k n c) (kω c)) : Lim (fun n => typedL P t x (k n)) (typedL P t x kω) := by
 unfold typedL
 cases isAggT P t
 ·cases P.underlying t
  ·exact .none
  ·exact lim_cellK hk
 ·exact Lim.opt' fun _ => lim_cellsK fun _ => hk _
theorem lim_typed1 {own : Bool} {t : TypeId} {x : LV} {k : Nat → LV → Option β} {kω : LV → Option β} (hk : ∀ c, Lim (fun n => k n c) (kω c)) : Lim (fun n => typed1 P own t x (k n)) (typed1 P own t x kω) := by
 unfold typed1
 cases own
 ·exact lim_typedL fun _ => hk _
 ·exact Lim.opt' fun _ => hk _
theorem lim_typedTup : ∀ {ts : List TypeId} {xs : List LV} {k : Nat → List LV → Option β} {kω : List LV → Option β} (hk : ∀ c, Lim (fun n => k n c) (kω c)), Lim (fun n => typedTup P ts xs (k n)) (typedTup P ts xs kω)
 | [], xs, k, kω, hk => by unfold typedTup; exact Lim.opt' fun _ => hk _
 | t :: ts, xs, k, kω, hk => by
  unfold typedTup
  exact Lim.opt' fun _ => lim_typed1 fun _ => lim_typedTup fun _ => hk _
theorem lim_typedK {own : Bool} {t : TypeId} {x : LV} {k : Nat → LV → Option β} {kω : LV → Option β} (hk : ∀ c, Lim (fun n => k n c) (kω c)) : Lim (fun n => typedK P own t x (k n)) (typedK P own t x kω) := by
 unfold typedK
 split
 ·exact Lim.opt' fun _ => lim_typedTup fun _ => hk _
 ·exact lim_typed1 hk
theorem lim_typedIf {b : Bool} {t : TypeId} {x : LV} {k : Nat → LV → Option β} {kω : LV → Option β} (hk : ∀ c, Lim (fun n => k n c) (kω c)) : Lim (fun n => typedIf P b t x (k n)) (typedIf P b t x kω) := by
 cases b with
 | true => exact lim_typedK hk
 | false => exact hk _
theorem lim_loadK {h : OpHint} {t : TypeId} {a : LV} {s : S} {μ : Mu} {k : Nat → LV → S → Mu → Option β} {kω : LV → S → Mu → Option β} (hk : ∀ v s μ, Lim (fun n => k n v s μ) (kω v s μ)) : Lim (fun n => loadK P h t a s μ (k n)) (loadK P h t a s μ kω) := by
 unfold loadK
 split
 ·split
  ·exact .none
  ·split
   ·exact Lim.opt' fun _ => lim_typedIf fun _ => hk _ _ _
   ·exact Lim.opt' fun _ => hk _ _ _
 ·split
  ·exact Lim.opt' fun _ => Lim.opt' fun _ => hk _ _ _
  ·refine Lim.opt' fun _ => ?_
   split
   ·exact Lim.opt' fun _ => lim_typedK fun _ => hk _ _ _
   ·exact Lim.opt' fun _ => lim_typedK fun _ => hk _ _ _
 ·exact .none
theorem lim_storeK {h : OpHint} {t : TypeId} {a v : LV} {s : S} {μ : Mu} {k : Nat → LV → S → Mu → Option β} {kω : LV → S → Mu → Option β} (hk : ∀ v s μ, Lim (fun n => k n v s μ) (kω v s μ)) : Lim (fun n => storeK P h t a v s μ (k n)) (storeK P h t a v s μ kω) := by
 unfold storeK
 split
 ·split
  ·exact .none
  ·simp only [obWriteK_eq]
   exact Lim.opt' fun _ => hk _ _ _
 ·split
  ·exact .none
  ·exact Lim.opt' fun _ => Lim.guard (Lim.opt' fun _ => hk _ _ _)
 ·exact .none
theorem lim_fieldAddrK {h : OpHint} {t : TypeId} {a : LV} {f : Nat} {k : Nat → LV → Option β} {kω : LV → Option β} (hk : ∀ c, Lim (fun n => k n c) (kω c)) : Lim (fun n => fieldAddrK P h t a f (k n)) (fieldAddrK P h t a f kω) := by
 unfold fieldAddrK
 refine Lim.opt' fun _ => ?_
 split
 ·exact hk _
 ·split
  ·exact Lim.opt' fun _ => lim_cellsK fun _ => Lim.guard (hk _)
  ·exact Lim.opt' fun _ => hk _
 ·exact .none
theorem lim_indexAddrK {h : OpHint} {t : TypeId} {a : LV} {i : Int} {k : Nat → LV → Option β} {kω : LV → Option β} (hk : ∀ c, Lim (fun n => k n c) (kω c)) : Lim (fun n => indexAddrK P h t a i (k n)) (indexAddrK P h t a i kω) := by
 unfold indexAddrK typedC
 split
 ·refine Lim.opt' fun _ => ?_
  split
  ·exact Lim.guard (hk _)
  ·exact Lim.opt' fun _ => lim_typedL fun _ => Lim.guard (hk _)
  ·split
   ·exact Lim.opt' fun _ => Lim.opt' fun _ => lim_typedL fun _ => Lim.guard (hk _)
   ·exact Lim.opt' fun _ => Lim.guard (hk _)
  ·exact .none
 ·refine Lim.opt' fun _ => ?_
  split
  ·exact Lim.guard (hk _)
  ·split
   ·exact Lim.opt' fun _ => Lim.guard (Lim.guard (hk _))
   ·exact Lim.opt' fun _ => Lim.guard (hk _)
  ·exact .none
 ·exact .none
theorem lim_indexK {t : TypeId} {a : LV} {i : Int} {k : Nat → LV → Option β} {kω : LV → Option β} (hk : ∀ c, Lim (fun n => k n c) (kω c)) : Lim (fun n => indexK P t a i (k n)) (indexK P t a i kω) := by
 unfold indexK typedC
 split
 ·exact Lim.opt' fun _ => Lim.opt' fun _ => hk _
 ·split
  ·exact Lim.opt' fun _ => Lim.opt' fun _ => Lim.guard (Lim.opt' fun _ => lim_typedL fun _ => hk _)
  ·exact .none
 ·exact .none
theorem lim_boundK {ev : Operand → LV} {x : Option Operand} {d : Int} {k : Nat → Int → Option β} {kω : Int → Option β} (hk : ∀ c, Lim (fun n => k n c) (kω c)) : Lim (fun n => boundK ev x d (k n)) (boundK ev x d kω) := by
 unfold boundK
 cases x
 ·exact hk _
 ·exact Lim.opt' fun _ => hk _
theorem lim_sliceK {t : TypeId} {x : LV} {lo hi : Option Operand} {ev : Operand → LV} {k : Nat → LV → Option β} {kω : LV → Option β} (hk : ∀ c, Lim (fun n => k n c) (kω c)) : Lim (fun n => sliceK P t x lo hi ev (k n)) (sliceK P t x lo hi ev kω) := by
 unfold sliceK
 split
 ·exact Lim.opt' fun _ => lim_boundK fun _ => lim_boundK fun _ => Lim.opt' fun _ => hk _
 ·refine Lim.opt' fun _ => ?_
  split
  ·exact Lim.opt' fun _ => lim_boundK fun _ => lim_boundK fun _ => Lim.guard (Lim.opt' fun _ => hk _)
  ·exact lim_boundK fun _ => lim_boundK fun _ => Lim.guard (Lim.opt' fun _ => hk _)
  ·exact lim_boundK fun _ => lim_boundK fun _ => Lim.guard (hk _)
  ·exact .none
 ·exact .none
theorem lim_appendK {h : OpHint} {t : TypeId} {xt : Option TypeId} {x y : LV} {s : S} {μ : Mu} {k : Nat → LV → S → Mu → Option β} {kω : LV → S → Mu → Option β} (hk : ∀ v s μ, Lim (fun n => k n v s μ) (kω v s μ)) : Lim (fun n => appendK P h t xt x y s μ (k n)) (appendK P h t xt x y s μ kω) := by
 unfold appendK
 split
 ·refine Lim.opt' fun _ => Lim.guard (Lim.opt' fun _ => Lim.guard ?_)
  cases xt
  ·exact .none
  ·refine Lim.opt' fun _ => ?_
   split
   ·exact Lim.opt' fun _ => Lim.guard (hk _ _ _)
   ·exact Lim.opt' fun _ => Lim.guard (hk _ _ _)
   ·exact .none
 ·exact .none
theorem lim_convertK {h : OpHint} {src dst : TypeId} {x : LV} {s : S} {μ : Mu} {k : Nat → LV → S → Mu → Option β} {kω : LV → S → Mu → Option β} (hk : ∀ v s μ, Lim (fun n => k n v s μ) (kω v s μ)) : Lim (fun n => convertK P h src dst x s μ (k n)) (convertK P h src dst x s μ kω) := by
 unfold convertK
 split
 ·split
  ·exact Lim.opt' fun _ => hk _ _ _
  ·exact .none
 ·split
  ·exact Lim.opt' fun _ => hk _ _ _
  ·split
   ·split
    ·split
     ·exact Lim.guard (Lim.opt' fun _ => hk _ _ _)
     ·exact .none
    ·exact Lim.opt' fun _ => Lim.opt' fun _ => hk _ _ _
   ·exact .none
  ·exact .none
 ·split
  ·split
   ·refine Lim.opt' fun _ => Lim.guard ?_
    split
    ·exact hk _ _ _
    ·exact hk _ _ _
   ·exact .none
  ·exact .none
 ·exact .none
theorem lim_maskK {live : List (Nat × Nat)} {s : S} {k : Nat → S → Option β} {kω : S → Option β} (hk : ∀ s, Lim (fun n => k n s) (kω s)) : Lim (fun n => maskK live s (k n)) (maskK live s kω) := by
 unfold maskK
 refine Lim.opt' fun _ => ?_
 cases s.pushed
 ·exact Lim.opt' fun _ => Lim.opt' fun _ => hk _
 ·exact hk _
theorem lim_truncK {L : Nat} {live : List (Nat × Nat)} {s : S} {k : Nat → S → Option β} {kω : S → Option β} (hk : ∀ s, Lim (fun n => k n s) (kω s)) : Lim (fun n => truncK L live s (k n)) (truncK L live s kω) := by
 unfold truncK
 split
 ·exact hk _
 ·exact Lim.guard (hk _)
theorem Lim.optE {x : Option α} {k : Nat → α → Option β} {kω : α → Option β} {g : Nat → Option β} {gω : Option β} (hk : ∀ a, Lim (fun n => k n a) (kω a)) (hg : Lim g gω) : Lim (fun n => Abs.optE x (k n) (g n)) (Abs.optE x kω gω) := by
 cases x with
 | none => exact hg
 | some a => exact hk a
theorem lim_mapPutK {t : TypeId} {m x y : LV} {s : S} {μ : Mu} {k : Nat → LV → S → Mu → Option β} {kω : LV → S → Mu → Option β} (hk : ∀ v s μ, Lim (fun n => k n v s μ) (kω v s μ)) : Lim (fun n => mapPutK P t m x y s μ (k n)) (mapPutK P t m x y s μ kω) := by
 unfold mapPutK
 refine Lim.opt' fun _ => Lim.opt' fun _ => Lim.opt' fun _ => ?_
 split
 ·split
  ·exact Lim.guard (hk _ _ _)
  ·exact .none
 ·split
  ·exact Lim.guard (hk _ _ _)
  ·exact .none
 ·exact .none
theorem lim_mapGetK {t : TypeId} {m x : LV} {ok : Bool} {s : S} {μ : Mu} {k : Nat → LV → Option β} {kω : LV → Option β} (hk : ∀ v, Lim (fun n => k n v) (kω v)) : Lim (fun n => mapGetK P t m x ok s μ (k n)) (mapGetK P t m x ok s μ kω) := by
 unfold mapGetK typedC
 refine Lim.opt' fun _ => Lim.opt' fun _ => Lim.opt' fun _ => Lim.guard (Lim.optE (fun _ => lim_typedL fun _ => ?_) (Lim.opt' fun _ => ?_))
 ·cases ok <;> exact hk _
 ·cases ok <;> exact hk _
theorem lim_assertK {x : LV} {t : TypeId} {ok : Bool} {k : Nat → LV → Option β} {kω : LV → Option β} (hk : ∀ v, Lim (fun n => k n v) (kω v)) : Lim (fun n => assertK P x t ok (k n)) (assertK P x t ok kω) := by
 unfold assertK
 split
 ·exact .none
 ·split
  ·exact .none
  ·refine Lim.opt' fun _ => ?_
   split
   ·split <;> exact hk _
   ·exact hk _
   ·exact .none
 ·exact .none
theorem lim_binK {op : BinOp} {t : TypeId} {x y : Operand} {a b : LV} {k : Nat → CV → Option β} {kω : CV → Option β} (hk : ∀ c, Lim (fun n => k n c) (kω c)) : Lim (fun n => binK P op t x y a b (k n)) (binK P op t x y a b kω) := by
 unfold binK
 split
 ·exact Lim.opt' fun _ => Lim.opt' fun _ => Lim.opt' fun _ => hk _
 ·exact Lim.guard (Lim.opt' fun _ => hk _)
theorem lim_cellsN : ∀ {ms : List Nat} {cs : List LV} {k : Nat → List LV → Option β} {kω : List LV → Option β} (hk : ∀ c, Lim (fun n => k n c) (kω c)), Lim (fun n => cellsN ms cs (k n)) (cellsN ms cs kω)
 | [], cs, k, kω, hk => by unfold cellsN; exact hk _
 | m :: ms, [], k, kω, hk => by unfold cellsN; exact .none
 | m :: ms, c :: cs, k, kω, hk => by
  unfold cellsN cellN
  split
  ·exact lim_cellsN fun _ => hk _
  ·exact Lim.opt' fun _ => lim_cellsN fun _ => hk _
  ·exact Lim.opt' fun _ => lim_cellsN fun _ => hk _
  ·exact Lim.opt' fun _ => lim_cellsN fun _ => hk _
theorem lim_obsK : ∀ {obs : List (Nat × List Nat)} {s : S} {k : Nat → S → Option β} {kω : S → Option β} (hk : ∀ s, Lim (fun n => k n s) (kω s)), Lim (fun n => obsK obs s (k n)) (obsK obs s kω)
 | [], s, k, kω, hk => by unfold obsK; exact hk _
 | q :: r, s, k, kω, hk => by
  unfold obsK
  split
  ·exact lim_obsK hk
  ·split
   ·exact lim_cellsN fun _ => lim_obsK hk
   ·exact .none
structure LimR (ρ : Nat → Rho) (ρω : Rho) : Prop where
 call : ∀ f args μ, Lim (fun n => (ρ n).call f args μ) (ρω.call f args μ)
 loop : ∀ H lv c s μ, Lim (fun n => (ρ n).loop H lv c s μ) (ρω.loop H lv c s μ)
 seg : ∀ H lv c s μ, Lim (fun n => (ρ n).seg H lv c s μ) (ρω.seg H lv c s μ)
 dcall : ∀ f pv args μ, Lim (fun n => (ρ n).dcall f pv args μ) (ρω.dcall f pv args μ)
variable {ρ : Nat → Rho} {ρω : Rho}
theorem lim_enterK (R : LimR ρ ρω) {h : OpHint} {t : TypeId} {f : FuncId} {args : List LV} {s : S} {μ : Mu} {k : Nat → LV → S → Mu → Option β} {kω : LV → S → Mu → Option β} {p : Nat → CV → S → Mu → Option β} {pω : CV → S → Mu → Option β}
  (hk : ∀ v s μ, Lim (fun n => k n v s μ) (kω v s μ)) (hp : ∀ v s μ, Lim (fun n => p n v s μ) (pω v s μ)) : Lim (fun n => enterK P (ρ n) h t f args s μ (k n) (p n)) (enterK P ρω h t f args s μ kω pω) := by
 unfold enterK
 split
 ·exact Lim.guard (Lim.callK (R.call _ _ _) (fun _ _ => lim_typedK fun _ => hk _ _ _) fun _ _ => hp _ _ _)
 ·exact Lim.opt' fun _ => Lim.opt' fun _ => Lim.callK (R.call _ _ _) (fun _ _ => Lim.opt' fun _ => lim_typedK fun _ => hk _ _ _) fun _ _ => Lim.opt' fun _ => hp _ _ _
theorem lim_opK1 (R : LimR ρ ρω) {h : OpHint} {o : Oper} {s : S} {μ : Mu} {k : Nat → LV → S → Mu → Option β} {kω : LV → S → Mu → Option β} {p : Nat → CV → S → Mu → Option β} {pω : CV → S → Mu → Option β}
  (hk : ∀ v s μ, Lim (fun n => k n v s μ) (kω v s μ)) (hp : ∀ v s μ, Lim (fun n => p n v s μ) (pω v s μ)) : Lim (fun n => opK1 P (ρ n) h o s μ (k n) (p n)) (opK1 P ρω h o s μ kω pω) := by
 unfold opK1
 dsimp only
 split
 ·exact hk _ _ _
 ·exact hk _ _ _
 ·exact Lim.opt' fun _ => hk _ _ _
 ·exact Lim.opt' fun _ => hk _ _ _
 ·exact Lim.opt' fun _ => hk _ _ _
 ·exact Lim.opt' fun _ => Lim.opt' fun _ => hk _ _ _
 ·split
  ·refine Lim.opt' fun _ => Lim.guard (Lim.opt' fun _ => Lim.opt' fun _ => Lim.opt' fun _ => Lim.guard (Lim.guard ?_))
   split
   ·exact hk _ _ _
   ·exact hk _ _ _
  ·exact .none
 ·exact lim_loadK hk
 ·exact lim_storeK hk
 ·exact Lim.opt' fun _ => Lim.guard (hk _ _ _)
 ·exact lim_binK fun _ => hk _ _ _
 ·exact Lim.opt' fun _ => hk _ _ _
 ·exact lim_convertK hk
 ·split
  ·exact .none
  ·exact Lim.opt' fun _ => hk _ _ _
  ·exact .none
 ·split
  ·split
   ·exact hk _ _ _
   ·exact .none
  ·exact .none
 ·split
  ·exact lim_sliceK fun _ => hk _ _ _
  ·exact .none
 ·exact lim_fieldAddrK fun _ => hk _ _ _
 ·exact Lim.opt' fun _ => hk _ _ _
 ·exact Lim.opt' fun _ => lim_indexAddrK fun _ => hk _ _ _
 ·exact Lim.opt' fun _ => lim_indexK fun _ => hk _ _ _
 ·exact Lim.opt' fun _ => Lim.opt' fun _ => hk _ _ _
 ·split
  ·exact hp _ _ _
  ·exact .none
 ·exact lim_assertK fun _ => hk _ _ _
 ·split
  ·exact .none
  ·exact hk _ _ _
 ·exact lim_mapPutK hk
 ·exact lim_mapPutK hk
 ·exact lim_mapGetK fun _ => hk _ _ _
 ·split
  ·split
   ·split
    ·exact Lim.opt' fun _ => hk _ _ _
    ·exact .none
   ·split
    ·exact lim_appendK hk
    ·exact .none
   ·split
    ·exact Lim.opt' fun _ => Lim.opt' fun _ => hk _ _ _
    ·exact .none
   ·split
    ·exact Lim.opt' fun _ => Lim.opt' fun _ => hk _ _ _
    ·exact .none
   ·exact .none
  ·refine Lim.guard ?_
   split
   ·exact lim_enterK R hk hp
   ·exact lim_enterK R hk hp
   ·exact .none
  ·exact .none
 ·exact .none
theorem lim_opK (R : LimR ρ ρω) {h : OpHint} {o : Oper} {s : S} {μ : Mu} {k : Nat → LV → S → Mu → Option β} {kω : LV → S → Mu → Option β} {p : Nat → CV → S → Mu → Option β} {pω : CV → S → Mu → Option β}
  (hk : ∀ v s μ, Lim (fun n => k n v s μ) (kω v s μ)) (hp : ∀ v s μ, Lim (fun n => p n v s μ) (pω v s μ)) : Lim (fun n => opK P (ρ n) h o s μ (k n) (p n)) (opK P ρω h o s μ kω pω) := by
 unfold opK
 exact Lim.opt' fun _ => Lim.opt' fun _ => lim_opK1 R hk hp
theorem lim_opsK (R : LimR ρ ρω) {H : Hints} {r : Nat} {ops : Array Oper} {p : Nat → CV → S → Mu → Option β} {pω : CV → S → Mu → Option β} (hp : ∀ v s μ, Lim (fun n => p n v s μ) (pω v s μ)) :
  ∀ (l : List Nat) {s : S} {μ : Mu} {k : Nat → S → Mu → Option β} {kω : S → Mu → Option β} (hk : ∀ s μ, Lim (fun n => k n s μ) (kω s μ)), Lim (fun n => opsK P (ρ n) H r ops l s μ (k n) (p n)) (opsK P ρω H r ops l s μ kω pω)
 | [], s, μ, k, kω, hk => by unfold opsK; exact hk _ _
 | i :: rest, s, μ, k, kω, hk => by
  unfold opsK
  cases ops[i]? with
  | none => exact .none
  | some o =>
   dsimp only
   cases o.guard with
   | none => exact lim_opK R (fun _ _ _ => lim_opsK R hp rest hk) hp
   | some g =>
    refine Lim.opt' fun _ => Lim.opt' fun q => ?_
    cases q with
    | none => exact lim_opsK R hp rest hk
    | some b =>
    cases b <;> dsimp only [cond_true, cond_false]
    ·cases g.2
     ·exact lim_opK R (fun _ _ _ => lim_opsK R hp rest hk) hp
     ·exact lim_opsK R hp rest hk
    ·cases g.2
     ·exact lim_opsK R hp rest hk
     ·exact lim_opK R (fun _ _ _ => lim_opsK R hp rest hk) hp
theorem lim_execK (R : LimR ρ ρω) {H : Hints} : ∀ (c : Code) {β : Type} {s : S} {μ : Mu} {k : Nat → St → Option β} {kω : St → Option β} (hk : ∀ st, Lim (fun n => k n st) (kω st)), Lim (fun n => execK P (ρ n) H c s μ (k n)) (execK P ρω H c s μ kω)
 | .skip, β, s, μ, k, kω, hk => by unfold execK; exact hk _
 | .region id ops draw, β, s, μ, k, kω, hk => by
  unfold execK
  cases draw
  ·exact lim_opsK R (fun _ _ _ => hk _) _ fun _ _ => hk _
  ·exact Lim.guard (lim_opsK R (fun _ _ _ => .none) _ fun _ _ => hk _)
 | .seq x y, β, s, μ, k, kω, hk => by
  unfold execK
  refine lim_execK R x fun st => ?_
  cases st
  ·dsimp only
   split
   ·exact lim_execK R y hk
   ·exact lim_obsK fun _ => lim_maskK fun _ => lim_truncK fun _ => Lim.opt (R.seg _ _ _ _ _) hk
  ·exact hk _
  ·exact hk _
  ·exact hk _
 | .cond c x y, β, s, μ, k, kω, hk => by
  unfold execK
  exact Lim.opt' fun _ => Lim.cond (lim_execK R x hk) (lim_execK R y hk)
 | .block id x, β, s, μ, k, kω, hk => by
  unfold execK
  refine lim_execK R x fun st => ?_
  cases st
  ·exact hk _
  ·dsimp only
   split
   ·exact hk _
   ·exact hk _
  ·exact hk _
  ·exact hk _
 | .loop x, β, s, μ, k, kω, hk => by
  unfold execK
  exact lim_obsK fun _ => lim_maskK fun _ => lim_truncK fun _ => Lim.opt (R.loop _ _ _ _ _) hk
 | .exit id, β, s, μ, k, kω, hk => by unfold execK; exact hk _
 | .ret, β, s, μ, k, kω, hk => by unfold execK; exact hk _
 | .rangeFunc .., β, s, μ, k, kω, hk => by unfold execK; exact .none
 | .scope .., β, s, μ, k, kω, hk => by unfold execK; exact .none
 | .label .., β, s, μ, k, kω, hk => by unfold execK; exact .none
 | .goto .., β, s, μ, k, kω, hk => by unfold execK; exact .none
 | .refuse .., β, s, μ, k, kω, hk => by unfold execK; exact .none
theorem lim_roundK (R : LimR ρ ρω) {H : Hints} {lv : List (Nat × Nat)} {c : Code} {s : S} {μ : Mu} : Lim (fun n => roundK P (ρ n) H lv c s μ) (roundK P ρω H lv c s μ) := by
 unfold roundK
 refine lim_execK R c fun st => ?_
 cases st
 ·exact lim_obsK fun _ => lim_maskK fun _ => lim_truncK fun _ => R.loop _ _ _ _ _
 ·exact .const _
 ·exact .const _
 ·exact .const _
theorem lim_segK (R : LimR ρ ρω) {H : Hints} {lv : List (Nat × Nat)} {c : Code} {s : S} {μ : Mu} : Lim (fun n => segK P (ρ n) H lv c s μ) (segK P ρω H lv c s μ) := by
 unfold segK
 refine lim_execK R c fun st => ?_
 exact .const _
theorem lim_deferK (R : LimR ρ ρω) {t : Nat} {pv : Option CV} {s : S} {μ : Mu} {k : Nat → S → Mu → Option β} {kω : S → Mu → Option β} (hk : ∀ s μ, Lim (fun n => k n s μ) (kω s μ)) : Lim (fun n => deferK (ρ n) t pv s μ (k n)) (deferK ρω t pv s μ kω) := by
 unfold deferK
 split
 ·exact Lim.opt' fun _ => Lim.opt' fun _ => Lim.opt (R.dcall _ _ _ _) fun _ => Lim.opt' fun _ => hk _ _
 ·exact .none
theorem lim_bodyDK (R : LimR ρ ρω) {H : Hints} {fn : Func} {c : Code} {t : Nat} {args : List LV} {μ : Mu} : Lim (fun n => bodyDK P (ρ n) H fn c t args μ) (bodyDK P ρω H fn c t args μ) := by
 unfold bodyDK
 split
 ·split
  ·exact .none
  ·split
   ·exact .none
   ·refine Lim.guard (lim_execK R _ fun st => ?_)
    cases st with
    | norm s μ =>
     refine lim_opsK R (fun _ _ _ => .none) _ fun _ _ => Lim.guard (lim_execK R _ fun st => ?_)
     cases st with
     | norm s μ => exact lim_deferK R fun _ _ => .const _
     | ret s μ => exact lim_deferK R fun _ _ => .const _
     | panic v s μ => exact lim_deferK R fun _ _ => .const _
     | exit i s μ => exact .none
    | _ => exact .none
 ·exact .none
theorem lim_dbodyK (R : LimR ρ ρω) {H : Hints} {fn : Func} {c : Code} {pv : Option CV} {args : List LV} {μ : Mu} : Lim (fun n => dbodyK P (ρ n) H fn c pv args μ) (dbodyK P ρω H fn c pv args μ) := by
 unfold dbodyK
 split
 ·split
  ·exact .none
  ·split
   ·exact .none
   ·refine Lim.guard (lim_opsK R (fun _ _ _ => .none) _ fun _ _ => lim_execK R _ fun st => .const _)
 ·exact .none
theorem lim_dcallStep (R : LimR ρ ρω) {E : Env} {f : FuncId} {pv : Option CV} {args : List LV} {μ : Mu} : Lim (fun n => dcallStep E (ρ n) f pv args μ) (dcallStep E ρω f pv args μ) := by
 unfold dcallStep
 split
 ·split
  ·exact lim_dbodyK R
  ·exact .none
 ·exact .none
theorem lim_callStep (R : LimR ρ ρω) {E : Env} {f : FuncId} {args : List LV} {μ : Mu} : Lim (fun n => callStep E (ρ n) f args μ) (callStep E ρω f args μ) := by
 unfold callStep
 split
 ·exact .const _
 ·split
  ·split
   ·split
    ·unfold bodyK
     refine Lim.guard (lim_execK R _ fun st => ?_)
     exact .const _
    ·exact lim_bodyDK R
   ·exact .none
  ·exact .none
end
open Classical in
noncomputable def limOf {β : Type} (x : Nat → Option β) : Option β := if h : ∃ r n, ∀ m, n ≤ m → x m = some r then some h.choose else none
theorem limOf_lim {β : Type} (x : Nat → Option β) : Lim x (limOf x) := by
 intro r h
 unfold limOf at h
 split at h
 ·rename_i hh
  simp only [Option.some.injEq] at h
  subst h
  exact hh.choose_spec
 ·cases h
theorem limOf_eq {β : Type} {x : Nat → Option β} {r : β} (h : ∃ n, ∀ m, n ≤ m → x m = some r) : limOf x = some r := by
 have hh : ∃ r n, ∀ m, n ≤ m → x m = some r := ⟨r, h⟩
 unfold limOf
 rw [dif_pos hh]
 obtain ⟨n, hn⟩ := h
 obtain ⟨k, hk⟩ := hh.choose_spec
 rw [← hk (max n k) (by omega), hn (max n k) (by omega)]
noncomputable def ev (E : Env) : Rho where
 call := fun f args μ => limOf fun n => (evn E n).call f args μ
 loop := fun H lv c s μ => limOf fun n => (evn E n).loop H lv c s μ
 seg := fun H lv c s μ => limOf fun n => (evn E n).seg H lv c s μ
 dcall := fun f pv args μ => limOf fun n => (evn E n).dcall f pv args μ
theorem ev_lim (E : Env) : LimR (evn E) (ev E) := ⟨fun f args μ => limOf_lim _, fun H lv c s μ => limOf_lim _, fun H lv c s μ => limOf_lim _, fun f pv args μ => limOf_lim _⟩
theorem ev_call {E : Env} {f : FuncId} {args : List LV} {μ : Mu} {out : Out} (h : callStep E (ev E) f args μ = some out) : (ev E).call f args μ = some out := by
 obtain ⟨n, hn⟩ := lim_callStep (ev_lim E) (E := E) (f := f) (args := args) (μ := μ) out h
 refine limOf_eq ⟨n + 1, fun m hm => ?_⟩
 obtain ⟨q, rfl⟩ : ∃ q, m = q + 1 := ⟨m - 1, by omega⟩
 exact hn q (by omega)
theorem ev_loop {E : Env} {H : Hints} {lv : List (Nat × Nat)} {c : Code} {s : S} {μ : Mu} {st : St} (h : roundK E.P (ev E) H lv c s μ = some st) : (ev E).loop H lv c s μ = some st := by
 obtain ⟨n, hn⟩ := lim_roundK (ev_lim E) (P := E.P) (H := H) (lv := lv) (c := c) (s := s) (μ := μ) st h
 refine limOf_eq ⟨n + 1, fun m hm => ?_⟩
 obtain ⟨q, rfl⟩ : ∃ q, m = q + 1 := ⟨m - 1, by omega⟩
 exact hn q (by omega)
theorem ev_seg {E : Env} {H : Hints} {lv : List (Nat × Nat)} {c : Code} {s : S} {μ : Mu} {st : St} (h : segK E.P (ev E) H lv c s μ = some st) : (ev E).seg H lv c s μ = some st := by
 obtain ⟨n, hn⟩ := lim_segK (ev_lim E) (P := E.P) (H := H) (lv := lv) (c := c) (s := s) (μ := μ) st h
 refine limOf_eq ⟨n + 1, fun m hm => ?_⟩
 obtain ⟨q, rfl⟩ : ∃ q, m = q + 1 := ⟨m - 1, by omega⟩
 exact hn q (by omega)
theorem ev_dcall {E : Env} {f : FuncId} {pv : Option CV} {args : List LV} {μ μ' : Mu} (h : dcallStep E (ev E) f pv args μ = some μ') : (ev E).dcall f pv args μ = some μ' := by
 obtain ⟨n, hn⟩ := lim_dcallStep (ev_lim E) (E := E) (f := f) (pv := pv) (args := args) (μ := μ) μ' h
 refine limOf_eq ⟨n + 1, fun m hm => ?_⟩
 obtain ⟨q, rfl⟩ : ∃ q, m = q + 1 := ⟨m - 1, by omega⟩
 exact hn q (by omega)
theorem ev_meets {E : Env} (hm : E.P.follows .mixedOrders = true) {W0 : World} (hp : PrimsOK E W0) {f : FuncId} {args : List LV} {μ : Mu} {out : Out} (h : (ev E).call f args μ = some out) : Meets E.P W0 f args μ out := by
 obtain ⟨n, hn⟩ := limOf_lim _ out h
 exact (evn_sound hm hp n).1 f args μ out (hn n (Nat.le_refl n))
end Go.Abs

set_option linter.unusedVariables false
set_option linter.unusedSimpArgs false
namespace Go.Abs
open Go Go.ChangeShapes Go.WideShapes
def Gh.top (w : World) : Gh where
 O := fun b => match w.heap[b]? with | some (.cells cs _ _) => cs.size | _ => 0
 β := fun _ _ => 0
 n := fun _ => 0
 sz := fun _ _ => 0
def Kept (W w' : World) : Prop := W.keptBut w' (fun _ => False) ∧ (∀ a : Addr, a.block < W.heap.size → w'.frozen? a = W.frozen? a) ∧ W.heap.size ≤ w'.heap.size ∧ ∀ b, b < W.heap.size → w'.heap[b]? = W.heap[b]?
theorem kept_of {W w' : World} (ho : w'.os = W.os) (hu : w'.output = W.output) (hs : W.heap.size ≤ w'.heap.size) (hk : ∀ b, b < W.heap.size → w'.heap[b]? = W.heap[b]?) : Kept W w' := by
 refine ⟨⟨ho, hu, fun i hi => ?_⟩, fun a ha => ?_, hs, hk⟩
 ·rw [hk i hi]
  cases W.heap[i]? with
  | none => rfl
  | some o => cases o <;> simp
 ·simp only [World.frozen?]
  rw [hk _ ha]
theorem post_kept {H : Type} {enc : TypeId × Value → H} {P : Program} {f : Func} {s : ChangeSpec} {apart fresh handsOn again : Bool} {W W' : World} {args : Array Value} {v : Value} {ds gs : List (DataW H)} {before pa pv : List MemPlace}
  (hW : DataW.Whole enc P f.params.toList s.vars apart W args.toList ds gs before)
  (hres : ∀ (b : Nat) (sp : Nat → Bool) (hd : Bool), DataW.TrodAll enc P W' b sp hd f.resultTypes.toList (v.resultList f.resultTypes.size) (s.fn H (ds ++ gs)).results [])
  (hargs : ∀ sp : Nat → Bool, (∀ p ∈ before, sp p.block = true) → DataW.TrodAll enc P W' 0 sp true f.params.toList args.toList (s.fn H (ds ++ gs)).args pa)
  (hvars : ∀ sp : Nat → Bool, (∀ p ∈ before, sp p.block = true) → DataW.TrodVars enc P W' sp s.vars (s.fn H (ds ++ gs)).vars pv)
  (hps : before = pa ++ pv) (hk : Kept W W')
  (hok : ∀ (j : Nat) (t : TypeId) (r : Value), f.resultTypes[j]? = some t → (v.resultList f.resultTypes.size)[j]? = some r → Value.okWide P W' .any 0 t r) :
  s.post enc P f apart fresh handsOn again W args v W' := by
 have hlt := fun p hp => hW.lt p hp
 have hold : ∀ p ∈ before, (fun b => decide (b < W.heap.size)) p.block = true := fun p hp => by simpa using hlt p hp
 refine ⟨ds, gs, before, [], pa, pv, hW, hres _ _ _, hargs _ hold, hvars _ hold, World.keptBut_mono (fun _ f => f.elim) hk.1, fun _ => ?_⟩
 obtain ⟨_, _, _, _, _, hz, hn⟩ := hW
 refine ⟨hok, _, _, ([] ++ pa) ++ pv, ⟨[] ++ pa, pv, trodAll_append (hargs _ (fun _ _ => rfl)) (hres _ _ _), hvars _ (fun _ _ => rfl), rfl, ?_, ?_⟩, ?_⟩
 ·intro b off hp
  have hm : MemPlace.cell b off ∈ before := by rw [hps]; simpa using hp
  rw [hk.2.1 _ (hlt _ hm)]
  exact hz b off hm
 ·intro ha
  have := hn ha
  rw [hps] at this
  simpa using this
 ·intro p hp _
  rw [hps]
  simpa using hp
section
variable {P : Program} {w : World}
theorem Rel.top {args : List CV} {cargs : Array Value} (hv : ∀ j x, args[j]? = some x → VR (Gh.top w) w x (cargs.getD j undef)) : Rel (Gh.top w) 0 (argS (args.map .cv)) [] cargs w ∧ ∀ b, ¬ TouchS (Gh.top w) w (argS (args.map .cv)) [] cargs b := by
 have hlive : ∀ lev i, ¬ isLive (obAt ([] ++ [(argS (args.map .cv)).lam]) lev i) := by
  intro lev i h
  obtain ⟨h1, _⟩ := obAt_nil (μ := []) h
  simp at h1
 have hown : ∀ q b, ¬ OwnsAt (Gh.top w) w (argS (args.map .cv)).fr cargs ([] ++ [(argS (args.map .cv)).lam]) q b := by
  intro q b h
  cases q with
  | fr t =>
   simp only [OwnsAt, argS_fr, List.getElem?_map] at h
   cases hx : args[t]? with
   | none => rw [hx] at h; simp [Owns] at h
   | some x => rw [hx] at h; simp [Owns] at h
  | ob lev i k => exact hlive lev i (ownsAt_live h)
 refine ⟨⟨rfl, fun t => ?_, fun i => ?_, fun lev i hl => by omega, fun lev i lev' i' h _ _ => absurd h (hlive lev i), fun q q' b h _ => absurd h (hown q b), fun q b lev i h _ _ => hown q b h, fun lev hl => by omega, ?_, fun lev hl => rfl⟩, ?_⟩
 ·rw [argS_fr, List.getElem?_map]
  cases hx : args[t]? with
  | none => simp [LVR, VR]
  | some x => simp only [Option.map_some, Option.getD_some, LVR]; exact hv t x hx
 ·have : lamOb (argS (args.map .cv)).lam i = .dead := by simp [argS, lamOb]
  rw [this]; trivial
 ·simp [argS, Gh.top]
 ·rintro b (⟨q, h⟩ | ⟨lev, i, h, _⟩)
  ·exact hown q b h
  ·exact hlive lev i h
theorem Meets.bool {f : FuncId} {args : List CV} {r : Bool} {μ' : Mu} (hm : Meets P w f (args.map .cv) [] (.ret (LV.bool r) μ')) {cargs : Array Value} (hs : cargs.size = args.length) (hv : ∀ j x, args[j]? = some x → VR (Gh.top w) w x (cargs.getD j undef)) :
  Calls P f cargs w fun e w' => e = .returned (.bool r) ∧ Kept w w' := by
 obtain ⟨R, hT⟩ := Rel.top hv
 refine (hm.2 (Gh.top w) w cargs (by simpa using hs) R ⟨Nat.le_refl _, fun b _ => ⟨rfl, hT b⟩⟩).mono fun e w' h => ?_
 cases e with
 | returned cv =>
  simp only [RetR] at h
  obtain ⟨O', R', E⟩ := h
  have h0 := R'.fr 0
  simp only [argS_fr, List.getElem?_cons_zero, Option.getD_some, LVR, VR] at h0
  have : cv = .bool r := by simpa using h0
  subst this
  exact ⟨rfl, kept_of E.os E.output E.size fun b hb => (E.keep b hb (hT b)).1⟩
 | panicked ch => simp [RetR] at h
 | outgrown => simp [RetR] at h
end
end Go.Abs

set_option linter.unusedVariables false
namespace Go.Abs
open Go
inductive Kont where
 | seq (b : Code)
 | block (id : Nat)
def runK (P : Program) (ρ : Rho) (H : Hints) {α : Type} : List Kont → St → (St → Option α) → Option α
 | [], st, k => k st
 | .seq b :: κ, st, k => match st with
  | .norm s μ => match cutGo (firstRegion b) H.cuts with
   | none => execK P ρ H b s μ fun st => runK P ρ H κ st k
   | some lv => obsK (objGo (firstRegion b) H.objs) s fun s => maskK lv.1 s fun s => truncK μ.length lv.1 s fun s => opt (ρ.seg H lv.2 b s μ) fun st => runK P ρ H κ st k
  | .exit i s μ => runK P ρ H κ (.exit i s μ) k
  | .ret s μ => runK P ρ H κ (.ret s μ) k
  | .panic v s μ => runK P ρ H κ (.panic v s μ) k
 | .block id :: κ, st, k => match st with
  | .exit i s μ => match Nat.beq i id with | true => runK P ρ H κ (.norm s μ) k | false => runK P ρ H κ (.exit i s μ) k
  | .norm s μ => runK P ρ H κ (.norm s μ) k
  | .ret s μ => runK P ρ H κ (.ret s μ) k
  | .panic v s μ => runK P ρ H κ (.panic v s μ) k
def bodyEnd (P : Program) (rs : List ResultVar) (st : St) : Option Out :=
 match st with
 | .norm s μ => finishK P rs s μ
 | .ret s μ => finishK P rs s μ
 | .panic v _ μ => guardB (below μ.length v) (some (.panic v μ))
 | .exit _ _ _ => none
def roundEnd (P : Program) (ρ : Rho) (H : Hints) (lv : List (Nat × Nat)) (c : Code) (st : St) : Option St :=
 match st with
 | .norm s μ => obsK (objGo (firstRegion c) H.objs) s fun s => maskK (H.lives (firstRegion c)).1 s fun s => truncK μ.length (H.lives (firstRegion c)).1 s fun s => ρ.loop H lv c s μ
 | .exit i s μ => maskK lv s fun s => some (.exit i s μ)
 | .ret s μ => maskK H.res s fun s => some (.ret s μ)
 | .panic v s μ => maskK H.pan s fun s => some (.panic v s μ)
def segEnd (H : Hints) (lv : List (Nat × Nat)) (st : St) : Option St :=
 match st with
 | .norm s μ => maskK lv s fun s => some (.norm s μ)
 | .exit i s μ => maskK lv s fun s => some (.exit i s μ)
 | .ret s μ => maskK H.res s fun s => some (.ret s μ)
 | .panic v s μ => maskK H.pan s fun s => some (.panic v s μ)
def subC : Code → List Nat → Code
 | c, [] => c
 | .seq a _, 0 :: p => subC a p
 | .seq _ b, _ :: p => subC b p
 | .cond _ a _, 0 :: p => subC a p
 | .cond _ _ b, _ :: p => subC b p
 | .block _ c, _ :: p => subC c p
 | .loop c, _ :: p => subC c p
 | c, _ => c
def bodyOf (P : Program) (f : FuncId) : Code := match P.funcs[f]? with | some fn => (match fn.body with | some c => c | none => .skip) | none => .skip
def codeAt (P : Program) (f : FuncId) (p : List Nat) : Code := subC (bodyOf P f) p
def resOf (P : Program) (f : FuncId) : List ResultVar := match P.funcs[f]? with | some fn => fn.results.toList | none => []
def obsL {α : Type} : List (Nat × List Nat) → Lam → (Lam → Option α) → Option α
 | [], l, k => k l
 | q :: r, l, k => match lamOb l q.1 with
  | .cells cs => cellsN q.2 cs fun cs => obsL r (l.set q.1 (.cells cs)) k
  | _ => none
def bytesCV (l : List UInt8) : List CV := l.map fun b => .v (.int .u8 (b.toNat : Int))
end Go.Abs

set_option linter.unusedVariables false
set_option linter.unusedSimpArgs false
namespace Go.Abs
open Go Go.RowKit
section
variable {P : Program} {W0 : World} {G : Gh} {w w' : World} {L : Nat} {μ : Mu} {s : S} {tm : Array Value}
theorem cell_in {p : Addr} {v : Value} (h : w.cell? p = some v) : p.block < w.heap.size := by
 by_cases hp : p.block < w.heap.size
 ·exact hp
 ·exfalso
  unfold World.cell? at h
  rw [Array.getElem?_eq_none (by omega)] at h
  simp at h
theorem heap_in {b : Nat} {o : Obj} (h : w.heap[b]? = some o) : b < w.heap.size := (Array.getElem?_eq_some_iff.1 h).1
theorem Le_later (hb : Below w.heap.size w w') : Le G w G w' := by
 refine ⟨fun b es clk h h1 => ⟨h, by rw [hb.block b (heap_in h1)]; exact h1⟩, fun lev i h => ⟨h, rfl, rfl⟩, fun b off v h h1 => ⟨h, ?_⟩, fun b cur e fz h => ⟨cur, fz, ?_, rfl⟩⟩
 ·rw [hb.cell (p := ⟨b, off, none⟩) (cell_in h1)]; exact h1
 ·rw [hb.block b (heap_in h)]; exact h
theorem Rel.later (R : Rel G L s μ tm w) (hb : Below w.heap.size w w') : Rel G L s μ tm w' ∧ (∀ l b, OwnsAt G w' s.fr tm (μ ++ [s.lam]) l b → OwnsAt G w s.fr tm (μ ++ [s.lam]) l b) :=
 R.frame (Le_later hb) (fun b h => ⟨hb.block b (R.touch_lt h), rfl⟩) (fun _ _ _ => ⟨rfl, rfl⟩) rfl
theorem meets_prim {f : FuncId} {args : List LV} {v : LV} (hf : ∃ fn c, P.funcs[f]? = some fn ∧ fn.body = some c ∧ (fn.name == "runtime.NumGoroutine") = false)
  (hc : ∀ (G : Gh) (w : World) (cargs : Array Value), cargs.size = args.length → (∀ j x, args[j]? = some x → LVR G w μ.length 0 x (cargs.getD j undef)) → W0.heap.size ≤ w.heap.size → (∀ b, b < W0.heap.size → w.heap[b]? = W0.heap[b]?) →
   Calls P f cargs w fun e w' => ∃ cv, e = .returned cv ∧ Below w.heap.size w w' ∧ LVR G w' μ.length 0 v cv ∧ ∀ b, ¬ Owns v cv b) : Meets P W0 f args μ (.ret v μ) := by
 refine ⟨hf, fun G w cargs hs R hkn => ?_⟩
 refine (hc G w cargs hs (fun j x hx => ?_) hkn.1 (fun b hb => (hkn.2 b hb).1)).mono fun e w' h => ?_
 ·have := R.fr j
  rw [argS_fr, hx] at this
  exact this
 ·obtain ⟨cv, rfl, hb, hv, hno⟩ := h
  obtain ⟨R1, hO⟩ := R.later hb
  have hob : ∀ lev i, obAt (μ ++ [(argS [v]).lam]) lev i = obAt (μ ++ [(argS args).lam]) lev i := fun _ _ => rfl
  have hown : ∀ q b, OwnsAt (G.withO G.O) w' (argS [v]).fr #[cv] (μ ++ [(argS [v]).lam]) q b → OwnsAt G w' (argS args).fr cargs (μ ++ [(argS args).lam]) q b := by
   intro q b h
   cases q with
   | fr t =>
    exfalso
    simp only [OwnsAt, argS_fr] at h
    cases t with
    | zero => exact hno b h
    | succ t => simp [Owns] at h
   | ob lev i k => exact h
  refine ⟨G.O, ⟨R1.lev, fun t => ?_, R1.lam, R1.mu, R1.inj, fun q q' b h h' => R1.own q q' b (hown q b h) (hown q' b h'), fun q b lev i h h' => R1.apart q b lev i (hown q b h) h', R1.nlt, R1.nL, R1.ngt⟩, ?_⟩
  ·rw [argS_fr]
   cases t with
   | zero => exact hv
   | succ t => simp [LVR, VR]
  ·refine ⟨Le_later hb, hb.os, hb.tape, hb.output, hb.size, fun b hl _ => ⟨hb.block b hl, rfl⟩, fun b h => .inl ?_, fun _ _ => ⟨fun _ => ⟨rfl, rfl⟩, rfl⟩⟩
   rcases h with ⟨q, h⟩ | ⟨lev, i, h, e⟩
   ·exact .inl ⟨q, hO q b (hown q b h)⟩
   ·exact .inr ⟨lev, i, h, e⟩
theorem args_eq {vals : List Value} {cargs : Array Value} (hs : cargs.size = (vals.map fun v => LV.cv (.v v)).length) (hv : ∀ j x, (vals.map fun v => LV.cv (.v v))[j]? = some x → LVR G w L 0 x (cargs.getD j undef)) : cargs = vals.toArray := by
 simp only [List.length_map] at hs
 apply Array.ext
 ·simpa using hs
 ·intro j h1 h2
  have h3 : j < vals.length := by simpa using h2
  have := hv j (.cv (.v vals[j])) (by simp [h3])
  simp only [LVR, VR, Array.getD_eq_getD_getElem?, Array.getElem?_eq_getElem h1, Option.getD_some] at this
  simpa using this
theorem meets_flat {f : FuncId} {vals : List Value} {r : Value} (hf : ∃ fn c, P.funcs[f]? = some fn ∧ fn.body = some c ∧ (fn.name == "runtime.NumGoroutine") = false)
  (hc : ∀ w : World, W0.heap.size ≤ w.heap.size → (∀ b, b < W0.heap.size → w.heap[b]? = W0.heap[b]?) → Calls P f vals.toArray w fun e w' => e = .returned r ∧ Below w.heap.size w w') :
  Meets P W0 f (vals.map fun v => LV.cv (.v v)) μ (.ret (.cv (.v r)) μ) := by
 refine meets_prim hf fun G w cargs hs hv h1 h2 => ?_
 rw [args_eq hs hv]
 exact (hc w h1 h2).mono fun e w' ⟨h3, h4⟩ => ⟨r, h3, h4, by simp [LVR, VR], fun b h => by simp [Owns] at h⟩
end
end Go.Abs

set_option linter.unusedVariables false
namespace Go.Abs
open Go
abbrev Prim := List LV → Mu → Option Out
def prim1 (g : List UInt8 → Option LV) : Prim := fun args μ => opt (uncons args) fun q => opt (isNilL q.2) fun _ => opt (getStr q.1) fun s => opt (g s) fun v => some (.ret v μ)
def prim2 (g : List UInt8 → List UInt8 → Option LV) : Prim := fun args μ => opt (uncons args) fun q => opt (uncons q.2) fun r => opt (isNilL r.2) fun _ => opt (getStr q.1) fun s => opt (getStr r.1) fun t => opt (g s t) fun v => some (.ret v μ)
def prim3 (g : List UInt8 → List UInt8 → List UInt8 → Option LV) : Prim := fun args μ => opt (uncons args) fun q => opt (uncons q.2) fun r => opt (uncons r.2) fun z => opt (isNilL z.2) fun _ => opt (getStr q.1) fun s => opt (getStr r.1) fun t => opt (getStr z.1) fun u =>
 opt (g s t u) fun v => some (.ret v μ)
def short (s : List UInt8) : Bool := decide (s.length ≤ 1000000)
def asciiB (s : List UInt8) : Bool := s.all fun b => decide (b.toNat < 128)
def pToUpper : Prim := prim1 fun s => guardB (short s) (some (LV.str (Lib.toUpperD s)))
def atoiV (err : TypeId) (s : List UInt8) : LV := match Lib.atoiAll s with
 | .ok v => .ltup [LV.int .i64 v, .cv (.v .nilIface)]
 | .range => .ltup [LV.int .i64 (Lib.atoiSat s), .cv (.iface err .undef)]
 | _ => .ltup [LV.int .i64 0, .cv (.iface err .undef)]
def pAtoi (err : TypeId) : Prim := prim1 fun s => guardB (short s) (some (atoiV err s))
def pItoa : Prim := fun args μ => opt (uncons args) fun q => opt (isNilL q.2) fun _ => opt (getInt .i64 q.1) fun n => guardB (decide (-9223372036854775808 ≤ n) && decide (n ≤ 9223372036854775807)) (some (.ret (LV.str (Lib.itoa n)) μ))
def pHasPrefix : Prim := prim2 fun s p => some (LV.bool (Lib.hasPrefix s p))
def pTrimPrefix : Prim := prim2 fun s p => some (LV.str (Lib.trimPrefix s p))
def oneB (s : List UInt8) : Option UInt8 := match s with | [c] => some c | _ => none
def pTrimLeft : Prim := prim2 fun s t => opt (oneB t) fun c => guardB (decide (c.toNat < 128)) (some (LV.str (Lib.trimLeftB s c)))
def pTrimRight : Prim := prim2 fun s t => opt (oneB t) fun c => guardB (decide (c.toNat < 128) && short s) (some (LV.str (Lib.trimRightB s c)))
def pIndex : Prim := prim2 fun s t => guardB (short s) (some (LV.int .i64 (Lib.index s t)))
def pContains : Prim := prim2 fun s t => guardB (short s) (some (LV.bool (Lib.contains s t)))
def pCut : Prim := prim2 fun s t => guardB (short s) (some (.ltup [LV.str (Lib.cut s t).1, LV.str (Lib.cut s t).2.1, LV.bool (Lib.cut s t).2.2]))
def pIndexAny : Prim := prim2 fun s t => guardB (short s && short t && asciiB s && asciiB t) (some (LV.int .i64 (Lib.indexAny s t)))
def pReplaceAll : Prim := prim3 fun s old new => guardB (short s && short new && decide (1 ≤ old.length)) (some (LV.str (Lib.replaceAll s old new)))
def pContainsFunc (preds : FuncId → Option (UInt8 → Bool)) : Prim := fun args μ => opt (uncons args) fun q => opt (uncons q.2) fun r => opt (isNilL r.2) fun _ => opt (getStr q.1) fun s => match r.1 with
 | .cv (.clo g []) => opt (preds g) fun p => some (.ret (LV.bool (s.any p)) μ)
 | _ => none
def pCopyCheck (bt : TypeId) : Prim := fun args μ => opt (uncons args) fun q => opt (isNilL q.2) fun _ => match q.1 with
 | .cv (.tref lev i t n) => guardB (Nat.beq t bt && Nat.beq n 2) (match muOb μ lev i with
  | .cells [a, b] => match a with
   | .cv (.v (.pointer none)) => some (.ret (.ltup []) (muSet μ lev i (.cells [.cv (.ref lev i 0), b])))
   | .cv (.ref l j 0) => guardB (Nat.beq l lev && Nat.beq j i) (some (.ret (.ltup []) μ))
   | _ => none
  | _ => none)
 | _ => none
def pString (bt : TypeId) : Prim := fun args μ => opt (uncons args) fun q => opt (isNilL q.2) fun _ => match q.1 with
 | .cv (.tref lev i t n) => guardB (Nat.beq t bt && Nat.beq n 2) (match muOb μ lev i with
  | .cells [a, b] => opt (getOsl b) fun xs => opt (byteCells xs) fun s => some (.ret (LV.str s) (muSet μ lev i .dead))
  | _ => none)
 | _ => none
end Go.Abs

set_option linter.unusedVariables false
set_option maxRecDepth 1000000
namespace Go.Abs
open Go Go.Proofs
def H3 : Hints := { cuts := [(3, [(0, 0), (3, 0)], [(4, 0)]), (5, [(0, 0), (3, 0)], [(4, 0)])], res := [(4, 0)] }
def H4 : Hints := { ops := [((5, 6), { take := [17] }), ((6, 6), { take := [23] }), ((7, 9), { take := [3] }), ((7, 10), { take := [6] }), ((7, 11), { take := [35, 36] })], cuts := [(3, [(0, 0)], [(2, 0)]), (5, [(0, 0)], [(2, 0)])], res := [(2, 0)] }
def H5 : Hints := { ops := [((3, 15), { take := [34] }), ((5, 1), { take := [46] }), ((19, 3), { take := [124] }), ((29, 6), { take := [176] }), ((30, 6), { take := [182] }), ((31, 4), { take := [12] }), ((31, 5), { take := [15] }), ((31, 6), { take := [189, 190] })], live := [(10, [(0, 2), (1, 2), (7, 0), (8, 0), (9, 0)], [(7, 0), (8, 0)]), (17, [(0, 2), (1, 2), (7, 0), (8, 0), (9, 0), (10, 0)], [(0, 2), (1, 2), (7, 0), (8, 0), (9, 0)]), (23, [(7, 0), (8, 0), (11, 0)], [(7, 0), (8, 0)])], cuts := [(3, [(0, 2), (1, 2)], [(4, 0)]), (5, [(0, 2), (1, 2)], [(4, 0)]), (8, [(0, 2), (1, 2)], [(4, 0)]), (15, [(0, 2), (1, 2), (7, 0), (8, 0), (9, 0)], [(0, 2), (1, 2), (7, 0), (8, 0), (9, 0)]), (16, [(0, 2), (1, 2), (7, 0), (8, 0), (9, 0)], [(0, 2), (1, 2), (7, 0), (8, 0), (9, 0)]), (21, [(0, 2), (1, 2), (7, 0), (8, 0), (9, 0), (10, 0)], [(0, 2), (1, 2), (7, 0), (8, 0), (9, 0), (10, 0)]), (29, [(7, 0), (8, 0)], [(4, 0)]), (33, [(13, 0), (14, 0), (16, 0)], [(4, 0)])], res := [(4, 0)] }
def H6 : Hints := { cuts := [(3, [(0, 0), (1, 0), (5, 0)], [(6, 0)]), (5, [(0, 0), (1, 0), (5, 0)], [(6, 0)]), (10, [(1, 0), (5, 0), (9, 0), (10, 0)], [(6, 0)]), (13, [(5, 0), (9, 0), (12, 0)], [(6, 0)]), (15, [(5, 0), (9, 0)], [(6, 0)])], res := [(6, 0)] }
def H7 : Hints := { ops := [((5, 6), { take := [26] }), ((7, 0), { take := [3] }), ((10, 1), { take := [38] }), ((19, 1), { take := [62] }), ((19, 2), { take := [63] }), ((20, 6), { take := [70] }), ((21, 1), { take := [74] }), ((21, 2), { take := [75] }), ((22, 11), { take := [10] }), ((22, 13), { take := [90, 91] }), ((26, 6), { take := [113] }), ((27, 3), { take := [15] }), ((27, 4), { take := [3] }), ((27, 5), { take := [119, 120] })], live := [(14, [(3, 2), (6, 0), (7, 0)], [(3, 2), (6, 0)])], cuts := [(3, [(0, 0)], [(2, 0)]), (5, [(0, 0)], [(2, 0)]), (8, [(3, 2), (4, 0)], [(2, 0)]), (10, [(3, 2)], [(2, 0)]), (12, [(3, 2)], [(2, 0)]), (18, [(3, 2), (6, 0), (7, 0)], [(3, 2), (6, 0), (7, 0)]), (24, [(3, 2), (6, 0)], [(2, 0)]), (26, [(3, 2), (6, 0)], [(2, 0)])], res := [(2, 0)] }
def H8 : Hints := { ops := [((5, 6), { take := [26] }), ((7, 7), { take := [37] }), ((8, 11), { take := [50, 51] }), ((18, 6), { take := [113] }), ((19, 12), { take := [15] }), ((19, 13), { take := [3] }), ((19, 14), { take := [128, 129] })], live := [(13, [(3, 2), (6, 0), (8, 2), (12, 0)], [(3, 2), (6, 0)])], cuts := [(3, [(0, 0)], [(2, 0)]), (5, [(0, 0)], [(2, 0)]), (10, [(3, 2), (6, 0), (8, 2), (10, 0)], [(2, 0)]), (12, [(3, 2), (6, 0), (8, 2)], [(2, 0)])], res := [(2, 0)] }
def H9 : Hints := { ops := [((3, 1), { take := [17] }), ((5, 1), { take := [21] }), ((5, 2), { take := [22] }), ((6, 1), { take := [27] }), ((6, 2), { take := [28] }), ((7, 1), { take := [33] }), ((10, 1), { take := [61] }), ((13, 1), { take := [73] }), ((18, 6), { take := [94] }), ((19, 3), { take := [12] }), ((19, 4), { take := [0] }), ((19, 5), { take := [100, 101] })], cuts := [(3, [(0, 2)], [(2, 0)]), (5, [(0, 2)], [(2, 0)]), (10, [(0, 2), (3, 0), (4, 0), (5, 0), (6, 0)], [(2, 0)]), (13, [(0, 2), (3, 0), (4, 0)], [(2, 0)]), (16, [(0, 2), (3, 0), (4, 0), (11, 0)], [(2, 0)]), (18, [(0, 2), (3, 0)], [(2, 0)])], res := [(2, 0)] }
def H10 : Hints := { cuts := [(3, [(0, 0), (1, 0), (2, 0)], [(6, 0)]), (5, [(0, 0), (1, 0), (2, 0)], [(6, 0)]), (11, [(1, 0), (2, 0), (9, 0), (10, 0), (11, 0), (12, 0)], [(6, 0)]), (14, [(2, 0), (11, 0), (12, 0)], [(6, 0)]), (16, [(2, 0), (11, 0), (12, 0)], [(6, 0)]), (18, [(2, 0), (11, 0), (12, 0)], [(6, 0)])], res := [(6, 0)] }
def H11 : Hints := { ops := [((1, 5), { take := [15] }), ((2, 0), { take := [1] }), ((2, 1), { take := [19] }), ((3, 5), { take := [25] }), ((6, 24), { take := [6] })] }
def H12 : Hints := { cuts := [(5, [(1, 0)], []), (13, [(0, 0), (1, 0), (39, 0)], [])], res := [(4, 0)] }
def H13 : Hints := { ops := [((7, 6), { take := [51] }), ((8, 8), { take := [5] })], cuts := [(3, [(0, 0), (1, 0)], [(4, 0)]), (5, [(0, 0), (1, 0)], [(4, 0)]), (7, [(0, 0), (1, 0)], [(4, 0)])], res := [(4, 0)] }
def H14 : Hints := { ops := [((10, 7), { take := [31] }), ((10, 14), { take := [38] })], cuts := [(6, [(1, 0), (12, 0)], []), (8, [(1, 0)], []), (10, [(1, 0)], [])], res := [(2, 0)] }
def H15 : Hints := { ops := [((10, 3), { take := [30] }), ((10, 9), { take := [36] })] }
def H16 : Hints := {  }
def H17 : Hints := { ops := [((1, 5), { take := [7] })] }
def H18 : Hints := { ops := [((12, 0), { take := [6] }), ((12, 4), { take := [33] }), ((12, 7), { take := [37] }), ((15, 1), { take := [6] }), ((15, 3), { take := [43] })], live := [(6, [(0, 0), (6, 1), (7, 0)], [(6, 1)])], cuts := [(4, [(0, 0)], [(2, 2), (3, 0), (4, 0)]), (9, [(0, 0), (6, 1), (7, 0)], [(0, 0), (6, 1), (7, 0)]), (12, [(0, 0), (6, 1), (8, 0)], [(0, 0), (6, 1), (7, 0)])], res := [(2, 2), (3, 0), (4, 0)] }
def H19 : Hints := { live := [(4, [(0, 2), (1, 2), (5, 0)], [])], cuts := [(3, [(0, 2), (1, 2)], [(4, 0)])], res := [(4, 0)] }
def H20 : Hints := { live := [(4, [(0, 2), (3, 0)], [])], cuts := [(3, [(0, 2)], [(2, 0)])], res := [(2, 0)] }
def H21 : Hints := { live := [(4, [(0, 2), (4, 0)], [])], cuts := [(3, [(0, 2)], [(2, 0), (3, 0)])], res := [(2, 0), (3, 0)] }
def H22 : Hints := { ops := [((2, 0), { take := [0] })], live := [(3, [(1, 0), (5, 0), (8, 2), (9, 0), (10, 0)], [(5, 0)])], res := [(4, 0)] }
def H23 : Hints := {  }
def H24 : Hints := { ops := [((1, 5), { take := [7] })] }
def H25 : Hints := { cuts := [(4, [(0, 0), (2, 0), (4, 0)], [(2, 0), (3, 0)]), (6, [(0, 0), (2, 0)], [(2, 0), (3, 0)]), (11, [(0, 0), (2, 0), (6, 0)], [(2, 0), (3, 0)]), (17, [(2, 0), (6, 0), (11, 0), (12, 0)], [(2, 0), (3, 0)])], res := [(2, 0), (3, 0)] }
def H26 : Hints := { cuts := [(3, [(0, 0), (3, 0)], [(4, 0), (5, 0)]), (5, [(0, 0), (3, 0)], [(4, 0), (5, 0)]), (7, [(0, 0), (3, 0)], [(4, 0), (5, 0)]), (10, [(0, 0), (3, 0), (6, 0)], [(4, 0), (5, 0)])], res := [(4, 0), (5, 0)] }
def H27 : Hints := { live := [(10, [(0, 0), (2, 0), (5, 0), (6, 0), (7, 0), (8, 0)], [(2, 0), (5, 0), (6, 0), (7, 0)]), (19, [(2, 0), (5, 0), (6, 0)], [(2, 0), (5, 0), (6, 0)])], cuts := [(4, [(0, 0), (2, 0), (4, 0)], [(2, 0), (3, 0)]), (6, [(0, 0), (2, 0), (4, 0)], [(2, 0), (3, 0)]), (8, [(0, 0), (2, 0)], [(2, 0), (3, 0)])], res := [(2, 0), (3, 0)] }
def H28 : Hints := { cuts := [(3, [(0, 0), (3, 0)], [(4, 0), (5, 0)]), (6, [(0, 0), (3, 0), (6, 0)], [(4, 0), (5, 0)]), (8, [(0, 0), (3, 0), (6, 0)], [(4, 0), (5, 0)]), (12, [(7, 0), (8, 0)], [(4, 0), (5, 0)])], res := [(4, 0), (5, 0)] }
def H29 : Hints := { ops := [((1, 1), { take := [10] }), ((4, 0), { cell := true }), ((8, 9), { push := true }), ((9, 0), { push := true }), ((10, 2), { push := true }), ((12, 0), { push := true }), ((14, 0), { push := true })], live := [(6, [(0, 2), (6, 0), (17, 2), (18, 0), (19, 0), (1000001, 0)], [(6, 0)])], cuts := [(4, [(0, 2)], [(2, 0), (3, 0)]), (9, [(0, 2), (6, 0), (8, 0), (17, 2), (18, 0), (19, 0), (34, 0)], [(0, 2), (6, 0), (8, 0), (17, 2), (18, 0), (19, 0)]), (10, [(0, 2), (6, 0), (8, 0), (17, 2), (18, 0), (19, 0)], [(0, 2), (6, 0), (17, 2), (18, 0), (19, 0)]), (11, [(0, 2), (6, 0), (17, 2), (18, 0), (19, 0)], [(0, 2), (6, 0), (17, 2), (18, 0), (19, 0)]), (13, [(6, 0), (41, 0)], [(6, 0)]), (14, [(6, 0)], [(2, 0), (3, 0)])], objs := [(6, [(1000000, []), (0, [3, 1])]), (9, [(0, [3, 1])]), (10, [(0, [3, 1])]), (11, [(0, [3, 1])]), (13, [(0, [3, 1])])], res := [(2, 0), (3, 0)] }
def H30 : Hints := { ops := [((1, 1), { take := [0] }), ((1, 2), { take := [3] }), ((1, 3), { take := [5] })] }
def H31 : Hints := { ops := [((8, 10), { take := [31] }), ((9, 0), { take := [7] }), ((9, 5), { take := [35] }), ((9, 6), { take := [40] }), ((11, 0), { take := [7] })], live := [(6, [(0, 0), (4, 0), (7, 1), (19, 0), (20, 0)], [(7, 1)])], cuts := [(4, [(0, 0), (4, 0)], [(2, 0), (3, 0)])], res := [(2, 0), (3, 0)] }
def H32 : Hints := { ops := [((13, 7), { take := [50] }), ((19, 0), { take := [7] }), ((19, 10), { take := [80] }), ((19, 11), { take := [90] }), ((30, 0), { take := [7] }), ((30, 4), { take := [137] }), ((30, 14), { take := [141] }), ((31, 7), { take := [156] }), ((35, 0), { take := [7] }), ((35, 4), { take := [165] }), ((35, 11), { take := [17] }), ((35, 18), { take := [169] }), ((38, 1), { take := [7] }), ((38, 4), { take := [186] })], live := [(7, [(0, 0), (7, 1), (8, 0), (9, 0)], [(7, 1), (8, 0)]), (20, [(0, 0), (7, 1), (8, 0), (9, 0), (12, 0), (13, 0)], [(0, 0), (7, 1), (8, 0), (12, 0), (13, 0)])], cuts := [(4, [(0, 0)], [(2, 2), (3, 0), (4, 0), (5, 0)]), (10, [(0, 0), (7, 1), (8, 0), (9, 0)], [(0, 0), (7, 1), (8, 0), (9, 0)]), (14, [(0, 0), (7, 1), (8, 0), (9, 0), (10, 0)], [(0, 0), (7, 1), (8, 0), (9, 0)]), (19, [(0, 0), (7, 1), (8, 0), (9, 0), (12, 0), (13, 0)], [(0, 0), (7, 1), (8, 0), (9, 0)]), (26, [(0, 0), (7, 1), (8, 0), (9, 0)], [(0, 0), (7, 1), (8, 0), (9, 0)]), (30, [(0, 0), (7, 1), (8, 0), (9, 0), (15, 0)], [(0, 0), (7, 1), (8, 0), (9, 0)]), (31, [(0, 0), (7, 1), (8, 0), (9, 0)], [(0, 0), (7, 1), (8, 0), (9, 0)]), (35, [(0, 0), (7, 1), (8, 0), (16, 0), (17, 2), (18, 0)], [(0, 0), (7, 1), (8, 0), (9, 0)]), (38, [(7, 1), (8, 0)], [(2, 2), (3, 0), (4, 0), (5, 0)])], res := [(2, 2), (3, 0), (4, 0), (5, 0)] }
def H35 : Hints := { ops := [((6, 17), { take := [30] }), ((7, 3), { take := [5] }), ((7, 10), { take := [36, 42] })], live := [(3, [(0, 2), (3, 0), (4, 0)], [(3, 0)])], cuts := [(9, [(0, 2), (3, 0), (4, 0)], [(0, 2), (3, 0), (4, 0)])], res := [(2, 0)] }
def H36 : Hints := { cuts := [(4, [(2, 0), (4, 0), (5, 0)], [(2, 0), (3, 0)]), (6, [(2, 0), (4, 0)], [(2, 0), (3, 0)])], res := [(2, 0), (3, 0)] }
def H37 : Hints := { cuts := [(3, [(0, 0)], [(2, 0), (3, 0)])], res := [(2, 0), (3, 0)] }
def H38 : Hints := {  }
def H39 : Hints := { ops := [((1, 6), { take := [10] }), ((6, 0), { take := [4] })], cuts := [(4, [(2, 0), (4, 2)], [(2, 0), (3, 0)])], res := [(2, 0), (3, 0)] }
def H40 : Hints := { live := [(5, [(0, 0), (4, 0), (5, 0)], [(4, 0)])], cuts := [(3, [(0, 0)], [(2, 0), (3, 0)])], res := [(2, 0), (3, 0)] }
def H41 : Hints := { live := [(4, [(0, 0), (5, 0)], [])], cuts := [(3, [(0, 0)], [(4, 0)])], res := [(4, 0)] }
def H42 : Hints := { live := [(3, [(0, 0), (3, 0), (4, 0)], [(3, 0)])], res := [(2, 0)] }
def H44 : Hints := {  }
def H46 : Hints := { cuts := [(4, [(2, 0), (4, 0)], [(2, 0), (3, 0)])], res := [(2, 0), (3, 0)] }
def H47 : Hints := { live := [(2, [(0, 0), (1, 0), (5, 0)], [(5, 0)])], res := [(4, 0)] }
def H48 : Hints := {  }
def H49 : Hints := {  }
def H50 : Hints := { ops := [((1, 0), { take := [0] }), ((1, 2), { take := [5] })] }
def H51 : Hints := { ops := [((1, 1), { take := [1] })] }
def H52 : Hints := { ops := [((1, 1), { take := [1] })] }
def H53 : Hints := { live := [(4, [(0, 0), (3, 0)], [])], cuts := [(3, [(0, 0)], [(2, 0)])], res := [(2, 0)] }
def H54 : Hints := { ops := [((2, 0), { take := [0] })], live := [(3, [(1, 0), (5, 0), (8, 2), (9, 0), (10, 0)], [(5, 0)])], res := [(4, 0)] }
def H55 : Hints := { ops := [((1, 1), { take := [1] })] }
def H56 : Hints := { ops := [((1, 1), { take := [1] })] }
def H57 : Hints := { ops := [((4, 5), { take := [24] })], cuts := [(4, [(7, 0), (8, 0)], [(4, 2), (5, 0), (6, 0)])], res := [(4, 2), (5, 0), (6, 0)] }
def H58 : Hints := { live := [(4, [(0, 0), (1, 0), (4, 0), (6, 0)], [(0, 0), (1, 0), (4, 0), (6, 0)]), (14, [(0, 0), (1, 0), (4, 0), (85, 2), (86, 0), (87, 0)], [(0, 0), (1, 0), (4, 0)]), (20, [(0, 0), (1, 0), (4, 0), (103, 2), (104, 0), (105, 0)], [(4, 0)]), (30, [(0, 0), (1, 0), (4, 0), (11, 0), (133, 2), (134, 0), (135, 0)], [(0, 0), (1, 0), (4, 0), (11, 0)]), (36, [(0, 0), (1, 0), (4, 0), (11, 0), (164, 2), (165, 0), (166, 0)], [(4, 0), (11, 0)])], cuts := [(8, [(0, 0), (1, 0), (4, 0), (6, 0)], [(0, 0), (1, 0), (4, 0)]), (11, [(0, 0), (1, 0), (4, 0), (5, 0), (60, 0)], [(0, 0), (1, 0), (4, 0)]), (28, [(0, 0), (1, 0), (4, 0)], [(4, 0)])], res := [(4, 0)] }
def H59 : Hints := { live := [(2, [(0, 0), (7, 2), (8, 0), (9, 0)], [])], res := [(2, 0), (3, 0)] }
def H64 : Hints := { cuts := [(3, [(0, 0)], [(2, 0)])], res := [(2, 0)] }
def H65 : Hints := {  }
def H67 : Hints := {  }
def H68 : Hints := { live := [(8, [(6, 0), (7, 0), (8, 0), (36, 0), (37, 0)], [(8, 0)])], cuts := [(4, [(0, 0), (1, 0), (6, 0), (7, 0)], [(4, 0), (5, 0)]), (6, [(6, 0), (7, 0)], [(4, 0), (5, 0)]), (12, [(6, 0), (7, 0), (8, 0), (9, 0), (36, 0), (37, 0)], [(6, 0), (7, 0), (8, 0), (36, 0), (37, 0)])], res := [(4, 0), (5, 0)] }
def H69 : Hints := { live := [(1, [(0, 0)], [(0, 0)])], res := [(2, 0)] }
def H70 : Hints := {  }
def H71 : Hints := { cuts := [(4, [(0, 0)], [(0, 0)]), (5, [(0, 0)], [(2, 0)])], res := [(2, 0)] }
def H72 : Hints := { ops := [((3, 0), { take := [0] })], live := [(4, [(10, 2), (11, 0), (12, 0)], [])], cuts := [(3, [(0, 2)], [(2, 0), (3, 0)])], res := [(2, 0), (3, 0)] }
def H73 : Hints := { cuts := [(3, [(2, 0), (3, 0)], [(4, 0)])], res := [(4, 0)] }
def H74 : Hints := { ops := [((2, 3), { outer := true }), ((2, 4), { cell := true, outer := true }), ((2, 7), { take := [11] }), ((2, 9), { outer := true }), ((2, 10), { take := [14], outer := true })] }
def H75 : Hints := { ops := [((2, 3), { outer := true }), ((2, 4), { cell := true, outer := true }), ((2, 6), { take := [12] }), ((2, 8), { outer := true }), ((2, 9), { take := [14], outer := true })] }
def H76 : Hints := { ops := [((1, 2), { outer := true }), ((1, 3), { outer := true })] }
def H78 : Hints := { ops := [((4, 3), { freeze := [4] }), ((5, 1), { push := true }), ((7, 4), { freeze := [4] }), ((8, 0), { freeze := [7] })], cuts := [(5, [(7, 0)], [(4, 0), (5, 0), (6, 0)]), (6, [(7, 0), (9, 0), (10, 0)], [(7, 0)]), (8, [(7, 0)], [(4, 0), (5, 0), (6, 0)]), (10, [(7, 0)], [(4, 0), (5, 0), (6, 0)])], objs := [(6, [(0, [0, 0, 1, 1])])], res := [(4, 0), (5, 0), (6, 0)] }
def H79 : Hints := { ops := [((1, 0), { take := [0] }), ((1, 2), { take := [5] })] }
def H80 : Hints := { live := [(3, [(0, 0), (7, 0), (8, 0)], [(0, 0), (7, 0), (8, 0)])], cuts := [(9, [(7, 0), (8, 0)], [(4, 0), (5, 0), (6, 0)])], res := [(4, 0), (5, 0), (6, 0)] }
def H81 : Hints := { live := [(4, [(0, 0), (4, 0), (5, 0), (6, 0), (7, 0)], [(4, 0)])], cuts := [(8, [(0, 0), (4, 0), (5, 0), (6, 0), (7, 0)], [(0, 0), (4, 0), (5, 0), (6, 0), (7, 0)]), (11, [(4, 0), (6, 0), (7, 0)], [(0, 0), (4, 0), (5, 0), (6, 0), (7, 0)]), (13, [(4, 0), (6, 0), (7, 0)], [(0, 0), (4, 0), (5, 0), (6, 0), (7, 0)])], res := [(4, 0)] }
def H82 : Hints := { ops := [((7, 7), { take := [7] }), ((7, 10), { take := [27] }), ((7, 12), { take := [30] }), ((9, 1), { take := [7] }), ((9, 3), { take := [42] })], live := [(4, [(0, 0), (6, 0), (7, 1), (8, 0)], [(6, 0), (7, 1)])], res := [(4, 0), (5, 2)] }
def H83 : Hints := { live := [(4, [(1, 0), (3, 0)], [])], cuts := [(3, [(1, 0)], [(2, 0)])], res := [(2, 0)] }
def H85 : Hints := {  }
def H86 : Hints := {  }
def H90 : Hints := {  }
def H92 : Hints := {  }
def H93 : Hints := {  }
def H94 : Hints := { live := [(2, [(0, 2), (1, 0), (7, 0), (8, 0)], [])], res := [(4, 0)] }
def H95 : Hints := { live := [(4, [(0, 0), (19, 0), (20, 0)], [])], cuts := [(3, [(0, 0)], [(2, 0)])], res := [(2, 0)] }
def H96 : Hints := {  }
def H97 : Hints := { ops := [((1, 1), { arr := true }), ((1, 2), { take := [6] }), ((5, 3), { arr := true }), ((5, 9), { arr := true }), ((6, 5), { arr := true }), ((7, 0), { take := [3] })], live := [(3, [(3, 0), (4, 0)], [(3, 0)])], res := [(2, 0)] }
def H98 : Hints := { ops := [((4, 0), { own := true }), ((4, 2), { take := [28] })], live := [(5, [(0, 0), (1, 0), (4, 0), (5, 0), (6, 0), (7, 0), (30, 2), (31, 0), (32, 0)], [(0, 0), (1, 0), (4, 0), (5, 0), (6, 0), (7, 0)])], cuts := [(14, [(0, 0), (1, 0), (4, 0), (5, 0), (6, 0), (7, 0), (10, 0), (11, 0)], [(4, 0)]), (20, [(0, 0), (1, 0), (4, 0), (5, 0), (6, 0), (10, 0), (11, 0), (12, 0), (13, 0), (14, 0), (15, 0)], [(0, 0), (1, 0), (4, 0), (5, 0), (6, 0), (10, 0), (11, 0), (12, 0), (13, 0), (14, 0)]), (24, [(0, 0), (1, 0), (4, 0), (5, 0), (6, 0), (10, 0), (11, 0), (12, 0), (15, 0), (16, 0)], [(0, 0), (1, 0), (4, 0), (5, 0), (6, 0), (10, 0), (11, 0), (12, 0), (13, 0), (14, 0)]), (28, [(0, 0), (1, 0), (4, 0), (5, 0), (6, 0), (10, 0), (11, 0), (12, 0), (13, 0), (14, 0), (15, 0), (16, 0)], [(0, 0), (1, 0), (4, 0), (5, 0), (6, 0), (10, 0), (11, 0), (12, 0), (13, 0), (14, 0)]), (31, [(0, 0), (1, 0), (4, 0), (5, 0), (6, 0), (10, 0), (11, 0), (12, 0), (13, 0), (14, 0)], [(4, 0)]), (34, [(0, 0), (1, 0), (4, 0), (5, 0), (6, 0)], [(0, 0), (1, 0), (4, 0), (5, 0), (6, 0), (10, 0), (11, 0), (12, 0), (13, 0)]), (38, [(0, 0), (1, 0), (4, 0), (5, 0), (6, 0), (10, 0), (11, 0), (12, 0), (13, 0)], [(4, 0)]), (41, [(0, 0), (1, 0), (4, 0), (5, 0), (6, 0), (12, 0), (13, 0), (18, 0)], [(4, 0)]), (44, [(4, 0), (6, 0), (12, 0), (13, 0), (19, 0), (20, 0)], [(4, 0)])], res := [(4, 0)] }
def H99 : Hints := {  }
def H100 : Hints := { ops := [((1, 7), { take := [7] })] }
def H112 : Hints := {  }
def H114 : Hints := {  }
def H117 : Hints := {  }
def H118 : Hints := { ops := [((2, 3), { outer := true }), ((2, 4), { outer := true }), ((2, 10), { outer := true }), ((2, 11), { outer := true }), ((4, 3), { outer := true }), ((4, 4), { outer := true }), ((7, 3), { outer := true }), ((7, 4), { cell := true, outer := true }), ((7, 7), { take := [42] }), ((7, 10), { outer := true }), ((7, 11), { take := [45], outer := true })], live := [(2, [(0, 0), (2, 0), (3, 0), (6, 0)], [(0, 0), (2, 0), (3, 0), (6, 0)])], cuts := [(6, [(0, 0), (2, 0), (3, 0), (6, 0)], [(0, 0), (2, 0), (3, 0), (6, 0)])], res := [(2, 0), (3, 0), (6, 0)], pan := [(2, 0), (3, 0), (6, 0)], dfr := some 6 }
def H119 : Hints := { live := [(2, [(0, 2), (1, 0), (7, 0), (8, 0)], [])], res := [(4, 0)] }
def H120 : Hints := { live := [(3, [(0, 0), (3, 0), (4, 0)], [(3, 0)])], res := [(2, 0)] }
def H122 : Hints := {  }
def H132 : Hints := {  }
def H133 : Hints := {  }
def H134 : Hints := { live := [(1, [(0, 0)], [(0, 0)])], res := [(2, 0)] }
def H135 : Hints := {  }
def H147 : Hints := { ops := [((5, 2), { outer := true })] }
def H148 : Hints := { ops := [((1, 2), { outer := true }), ((1, 3), { outer := true })], cuts := [(6, [(0, 0), (1, 0), (4, 0), (6, 0)], [(4, 0), (5, 0)]), (18, [(4, 0), (14, 0), (15, 0)], [(0, 0), (1, 0), (4, 0)]), (23, [(0, 0), (1, 0), (4, 0)], [(4, 0), (5, 0)])], res := [(4, 0), (5, 0)] }
def H166 : Hints := { ops := [((1, 2), { outer := true }), ((1, 3), { outer := true }), ((3, 2), { outer := true }), ((3, 3), { outer := true }), ((5, 2), { outer := true }), ((5, 3), { outer := true }), ((5, 6), { outer := true }), ((5, 7), { outer := true }), ((6, 7), { take := [31] })], cuts := [(3, [(0, 0)], [(2, 0)]), (5, [(0, 0)], [(2, 0)])], res := [(2, 0)] }
def H167 : Hints := { ops := [((6, 5), { outer := true }), ((6, 6), { outer := true }), ((9, 2), { outer := true }), ((9, 3), { outer := true })], cuts := [(6, [(0, 0), (4, 0), (10, 0), (11, 0)], [(4, 0), (5, 0), (6, 0)]), (8, [(0, 0), (4, 0), (10, 0), (11, 0)], [(4, 0), (5, 0), (6, 0)])], res := [(4, 0), (5, 0), (6, 0)] }
def H168 : Hints := { ops := [((2, 3), { outer := true }), ((2, 4), { outer := true }), ((4, 2), { outer := true }), ((4, 3), { outer := true })], cuts := [(4, [(0, 0), (1, 0)], [(4, 0), (5, 0)])], res := [(4, 0), (5, 0)] }
def H169 : Hints := { ops := [((4, 0), { take := [8] }), ((5, 0), { take := [8] }), ((5, 3), { take := [28] }), ((5, 5), { take := [31] })], live := [(2, [(0, 0), (1, 0), (2, 0), (8, 1)], [])], cuts := [(5, [(0, 0), (2, 0), (8, 1), (9, 0), (10, 0)], [(0, 0), (1, 0), (2, 0), (8, 1)])], res := [(6, 0), (7, 0)] }
def H170 : Hints := {  }
def H171 : Hints := { cuts := [(9, [(0, 0), (1, 0), (4, 0), (6, 0), (7, 0), (8, 0)], [(4, 0), (5, 0)]), (12, [(1, 0), (4, 0), (6, 0), (7, 0), (14, 0), (15, 0), (16, 0), (17, 0)], [(4, 0), (5, 0)]), (14, [(1, 0), (4, 0), (6, 0), (7, 0), (14, 0), (15, 0), (17, 0)], [(4, 0), (5, 0)]), (16, [(1, 0), (4, 0), (6, 0), (7, 0), (14, 0), (15, 0), (17, 0)], [(4, 0), (5, 0)]), (21, [(1, 0), (4, 0), (14, 0), (17, 0), (18, 0), (19, 0)], [(4, 0), (5, 0)]), (23, [(1, 0), (4, 0), (18, 0), (19, 0)], [(4, 0), (5, 0)])], res := [(4, 0), (5, 0)] }
def H172 : Hints := { ops := [((7, 2), { take := [38] })], cuts := [(4, [(0, 0), (8, 0)], [(4, 0), (5, 0), (6, 0)])], res := [(4, 0), (5, 0), (6, 0)] }
def H173 : Hints := { ops := [((1, 2), { outer := true }), ((1, 3), { outer := true }), ((6, 2), { outer := true }), ((6, 3), { outer := true }), ((9, 3), { outer := true }), ((9, 4), { outer := true }), ((11, 2), { outer := true }), ((11, 3), { outer := true })], live := [(6, [(0, 0), (1, 0), (4, 0), (6, 0), (7, 0), (8, 0)], [(0, 0), (1, 0), (4, 0), (7, 0), (8, 0)])], cuts := [(9, [(0, 0), (1, 0), (4, 0), (6, 0), (7, 0), (8, 0), (9, 0)], [(0, 0), (1, 0), (4, 0), (6, 0), (7, 0), (8, 0)]), (15, [(0, 0), (1, 0), (4, 0), (7, 0), (8, 0)], [(4, 0), (5, 0)])], res := [(4, 0), (5, 0)] }
def H174 : Hints := { ops := [((7, 5), { take := [45] }), ((13, 2), { take := [65] })], cuts := [(7, [(4, 0), (6, 0), (7, 0), (8, 0), (9, 0), (10, 0)], [(4, 0), (5, 0)]), (9, [(4, 0), (6, 0), (7, 0)], [(4, 0), (5, 0)]), (13, [(4, 0), (7, 0), (13, 0)], [(4, 0), (5, 0)])], res := [(4, 0), (5, 0)] }
def H189 : Hints := { ops := [((3, 3), { outer := true }), ((3, 4), { cell := true, outer := true }), ((3, 7), { take := [17] }), ((3, 9), { outer := true }), ((3, 10), { take := [20], outer := true })], live := [(1, [(0, 0), (2, 0), (6, 0)], [])], res := [] }
def H190 : Hints := { ops := [((1, 2), { outer := true }), ((1, 3), { outer := true }), ((1, 8), { outer := true }), ((1, 9), { outer := true }), ((1, 16), { outer := true }), ((1, 17), { outer := true })], live := [(1, [(0, 0), (1, 0)], [(1, 0)])], res := [(4, 0)] }
def H191 : Hints := { cuts := [(5, [(0, 0), (4, 0), (9, 0)], [(4, 0), (5, 0), (6, 0), (7, 0)]), (11, [(0, 0), (4, 0), (9, 0), (10, 0)], [(4, 0), (5, 0), (6, 0), (7, 0)])], res := [(4, 0), (5, 0), (6, 0), (7, 0)] }
def H192 : Hints := {  }
def H193 : Hints := {  }
def H196 : Hints := { ops := [((1, 8), { freeze := [2] })] }
def hintsOf : FuncId → Hints
 | 3 => H3
 | 4 => H4
 | 5 => H5
 | 6 => H6
 | 7 => H7
 | 8 => H8
 | 9 => H9
 | 10 => H10
 | 11 => H11
 | 12 => H12
 | 13 => H13
 | 14 => H14
 | 15 => H15
 | 16 => H16
 | 17 => H17
 | 18 => H18
 | 19 => H19
 | 20 => H20
 | 21 => H21
 | 22 => H22
 | 23 => H23
 | 24 => H24
 | 25 => H25
 | 26 => H26
 | 27 => H27
 | 28 => H28
 | 29 => H29
 | 30 => H30
 | 31 => H31
 | 32 => H32
 | 35 => H35
 | 36 => H36
 | 37 => H37
 | 38 => H38
 | 39 => H39
 | 40 => H40
 | 41 => H41
 | 42 => H42
 | 44 => H44
 | 46 => H46
 | 47 => H47
 | 48 => H48
 | 49 => H49
 | 50 => H50
 | 51 => H51
 | 52 => H52
 | 53 => H53
 | 54 => H54
 | 55 => H55
 | 56 => H56
 | 57 => H57
 | 58 => H58
 | 59 => H59
 | 64 => H64
 | 65 => H65
 | 67 => H67
 | 68 => H68
 | 69 => H69
 | 70 => H70
 | 71 => H71
 | 72 => H72
 | 73 => H73
 | 74 => H74
 | 75 => H75
 | 76 => H76
 | 78 => H78
 | 79 => H79
 | 80 => H80
 | 81 => H81
 | 82 => H82
 | 83 => H83
 | 85 => H85
 | 86 => H86
 | 90 => H90
 | 92 => H92
 | 93 => H93
 | 94 => H94
 | 95 => H95
 | 96 => H96
 | 97 => H97
 | 98 => H98
 | 99 => H99
 | 100 => H100
 | 112 => H112
 | 114 => H114
 | 117 => H117
 | 118 => H118
 | 119 => H119
 | 120 => H120
 | 122 => H122
 | 132 => H132
 | 133 => H133
 | 134 => H134
 | 135 => H135
 | 147 => H147
 | 148 => H148
 | 166 => H166
 | 167 => H167
 | 168 => H168
 | 169 => H169
 | 170 => H170
 | 171 => H171
 | 172 => H172
 | 173 => H173
 | 174 => H174
 | 189 => H189
 | 190 => H190
 | 191 => H191
 | 192 => H192
 | 193 => H193
 | 196 => H196
 | _ => {}
def runePreds : FuncId → Option (UInt8 → Bool)
 | 122 => some fun b => decide (b.toNat < 32) || decide (126 < b.toNat)
 | 112 => some fun b => decide (b.toNat < 48) || decide (57 < b.toNat)
 | 44 => some fun b => decide (b.toNat < 48) || decide (57 < b.toNat)
 | 92 => some fun b => !((decide (97 ≤ b.toNat) && decide (b.toNat ≤ 122)) || (decide (65 ≤ b.toNat) && decide (b.toNat ≤ 90)) || (decide (48 ≤ b.toNat) && decide (b.toNat ≤ 57)) || decide (b.toNat = 95))
 | _ => none
def prims : FuncId → Option Prim
 | 91 => some (pToUpper)
 | 45 => some (pAtoi 146)
 | 66 => some (pItoa)
 | 195 => some (pHasPrefix)
 | 194 => some (pTrimPrefix)
 | 62 => some (pTrimLeft)
 | 63 => some (pTrimRight)
 | 145 => some (pIndex)
 | 115 => some (pContains)
 | 61 => some (pCut)
 | 60 => some (pIndexAny)
 | 84 => some (pReplaceAll)
 | 43 => some (pContainsFunc runePreds)
 | 116 => some (pCopyCheck 103)
 | 77 => some (pString 103)
 | _ => none
noncomputable def E : Env := { P := Tryz.prog, hints := hintsOf, prim := prims }
def rd23 {β : Type} (v : LV) (k : Int → Int → List UInt8 → Option β) : Option β := opt (getAgg v) fun cs => opt (uncons cs) fun q0 => opt (getInt .i64 (.cv q0.1)) fun x0 => opt (uncons q0.2) fun q1 => opt (getInt .i64 (.cv q1.1)) fun x1 => opt (uncons q1.2) fun q2 => opt (getStr (.cv q2.1)) fun x2 => opt (isNilL q2.2) fun _ => k x0 x1 x2
def rd88 {β : Type} (v : LV) (k : Int → Int → List UInt8 → Int → Int → Option β) : Option β := opt (getAgg v) fun cs => opt (uncons cs) fun q0 => opt (getInt .i64 (.cv q0.1)) fun x0 => opt (uncons q0.2) fun q1 => opt (getInt .i64 (.cv q1.1)) fun x1 => opt (uncons q1.2) fun q2 => opt (getStr (.cv q2.1)) fun x2 => opt (uncons q2.2) fun q3 => opt (getInt .i64 (.cv q3.1)) fun x3 => opt (uncons q3.2) fun q4 => opt (getInt .i64 (.cv q4.1)) fun x4 => opt (isNilL q4.2) fun _ => k x0 x1 x2 x3 x4
def rd126 {β : Type} (v : LV) (k : List UInt8 → List UInt8 → Option β) : Option β := opt (getAgg v) fun cs => opt (uncons cs) fun q0 => opt (getStr (.cv q0.1)) fun x0 => opt (uncons q0.2) fun q1 => opt (getStr (.cv q1.1)) fun x1 => opt (isNilL q1.2) fun _ => k x0 x1
end Go.Abs

namespace Go.Proofs
open Go.Shelf
def Tryz.lays169_ren : Go.Shelf.Ren := ⟨fun | 169 => 77 | n => n, fun | 70 => 100 | 9 => 9 | 0 => 0 | 72 => 103 | 37 => 101 | 127 => 137 | 3 => 3 | 5 => 5 | n => n, fun | n => n⟩
theorem Tryz.Builder_Extra_169 : Builder.Extra Tryz.prog Tryz.lays169_ren := {
 sizeBuilder := by kernel_rfl
 liesBuilder := by kernel_rfl
 t5 := Tryz.underlying5
 a5 := Tryz.isAgg5
 z5 := Tryz.sizeOf5
 v5 := Tryz.zeroValue5
 infoByte := by kernel_rfl
 cellsByte := by kernel_rfl
 sizeByte := by kernel_rfl
 neB5 := by decide }
def Tryz.lays158_ren : Go.Shelf.Ren := ⟨fun | 158 => 91 | 165 => 129 | 166 => 75 | 167 => 74 | 169 => 77 | 230 => 130 | 203 => 131 | 240 => 116 | 241 => 153 | 197 => 141 | 118 => 154 | 168 => 155 | 270 => 156 | 262 => 157 | 276 => 146 | 277 => 179 | 260 => 160 | 242 => 180 | 313 => 181 | 278 => 197 | 274 => 198 | 275 => 199 | n => n, fun | 9 => 9 | 4 => 4 | 3 => 3 | 5 => 5 | 72 => 103 | 0 => 0 | 76 => 77 | 75 => 76 | 107 => 151 | 70 => 100 | 20 => 20 | 37 => 101 | 127 => 137 | 21 => 21 | 105 => 155 | 164 => 159 | 162 => 195 | 203 => 193 | 119 => 199 | 46 => 154 | 139 => 202 | 138 => 201 | 51 => 196 | 160 => 212 | 208 => 219 | 206 => 217 | 80 => 107 | n => n, fun | 13 => 3 | 3 => 4 | 4 => 5 | n => n⟩
theorem Tryz.lays158 : Go.Proofs.Lays.n158 Tryz.prog Tryz.lays158_ren := {
 mixed := by kernel_rfl
 f118 := Tryz.func154.trans (congrArg some (by kernel_rfl))
 f158 := Tryz.func91.trans (congrArg some (by kernel_rfl))
 f165 := Tryz.func129.trans (congrArg some (by kernel_rfl))
 f166 := Tryz.func75.trans (congrArg some (by kernel_rfl))
 f167 := Tryz.func74.trans (congrArg some (by kernel_rfl))
 f168 := Tryz.func155.trans (congrArg some (by kernel_rfl))
 f169 := Tryz.func77.trans (congrArg some (by kernel_rfl))
 f197 := Tryz.func141.trans (congrArg some (by kernel_rfl))
 f203 := Tryz.func131.trans (congrArg some (by kernel_rfl))
 f230 := Tryz.func130.trans (congrArg some (by kernel_rfl))
 f240 := Tryz.func116.trans (congrArg some (by kernel_rfl))
 f241 := Tryz.func153.trans (congrArg some (by kernel_rfl))
 f242 := Tryz.func180.trans (congrArg some (by kernel_rfl))
 f260 := Tryz.func160.trans (congrArg some (by kernel_rfl))
 f262 := Tryz.func157.trans (congrArg some (by kernel_rfl))
 f270 := Tryz.func156.trans (congrArg some (by kernel_rfl))
 f274 := Tryz.func198.trans (congrArg some (by kernel_rfl))
 f275 := Tryz.func199.trans (congrArg some (by kernel_rfl))
 f276 := Tryz.func146.trans (congrArg some (by kernel_rfl))
 f277 := Tryz.func179.trans (congrArg some (by kernel_rfl))
 f278 := Tryz.func197.trans (congrArg some (by kernel_rfl))
 f313 := Tryz.func181.trans (congrArg some (by kernel_rfl))
 t0 := Tryz.underlying0
 a0 := Tryz.isAgg0
 z0 := Tryz.sizeOf0
 v0 := Tryz.zeroValue0
 t3 := Tryz.underlying3
 a3 := Tryz.isAgg3
 z3 := Tryz.sizeOf3
 v3 := Tryz.zeroValue3
 t4 := Tryz.underlying4
 a4 := Tryz.isAgg4
 z4 := Tryz.sizeOf4
 v4 := Tryz.zeroValue4
 t5 := Tryz.underlying5
 a5 := Tryz.isAgg5
 z5 := Tryz.sizeOf5
 v5 := Tryz.zeroValue5
 t9 := Tryz.underlying9
 a9 := Tryz.isAgg9
 z9 := Tryz.sizeOf9
 v9 := Tryz.zeroValue9
 t20 := Tryz.underlying20
 a20 := Tryz.isAgg20
 z20 := Tryz.sizeOf20
 v20 := Tryz.zeroValue20
 t21 := Tryz.underlying21
 a21 := Tryz.isAgg21
 z21 := Tryz.sizeOf21
 v21 := Tryz.zeroValue21
 t37 := Tryz.underlying101
 a37 := Tryz.isAgg101
 z37 := Tryz.sizeOf101
 v37 := Tryz.zeroValue101
 t46 := Tryz.underlying154
 a46 := Tryz.isAgg154
 z46 := Tryz.sizeOf154
 v46 := Tryz.zeroValue154
 t51 := Tryz.underlying196
 a51 := Tryz.isAgg196
 z51 := Tryz.sizeOf196
 v51 := Tryz.zeroValue196
 t70 := Tryz.underlying100
 a70 := Tryz.isAgg100
 z70 := Tryz.sizeOf100
 v70 := Tryz.zeroValue100
 t72 := Tryz.underlying103
 a72 := Tryz.isAgg103
 z72 := Tryz.sizeOf103
 v72 := Tryz.zeroValue103
 t75 := Tryz.underlying76
 a75 := Tryz.isAgg76
 z75 := Tryz.sizeOf76
 v75 := Tryz.zeroValue76
 t76 := Tryz.underlying77
 a76 := Tryz.isAgg77
 z76 := Tryz.sizeOf77
 v76 := Tryz.zeroValue77
 t105 := Tryz.underlying155
 a105 := Tryz.isAgg155
 z105 := Tryz.sizeOf155
 v105 := Tryz.zeroValue155
 t107 := Tryz.underlying151
 a107 := Tryz.isAgg151
 z107 := Tryz.sizeOf151
 v107 := Tryz.zeroValue151
 t119 := Tryz.underlying199
 a119 := Tryz.isAgg199
 z119 := Tryz.sizeOf199
 t127 := Tryz.underlying137
 a127 := Tryz.isAgg137
 z127 := Tryz.sizeOf137
 v127 := Tryz.zeroValue137
 t138 := Tryz.underlying201
 a138 := Tryz.isAgg201
 z138 := Tryz.sizeOf201
 v138 := Tryz.zeroValue201
 t139 := Tryz.underlying202
 a139 := Tryz.isAgg202
 z139 := Tryz.sizeOf202
 v139 := Tryz.zeroValue202
 t160 := Tryz.underlying212
 a160 := Tryz.isAgg212
 z160 := Tryz.sizeOf212
 v160 := Tryz.zeroValue212
 t162 := Tryz.underlying195
 a162 := Tryz.isAgg195
 z162 := Tryz.sizeOf195
 v162 := Tryz.zeroValue195
 t164 := Tryz.underlying159
 a164 := Tryz.isAgg159
 z164 := Tryz.sizeOf159
 v164 := Tryz.zeroValue159
 t203 := Tryz.underlying193
 a203 := Tryz.isAgg193
 z203 := Tryz.sizeOf193
 v203 := Tryz.zeroValue193
 t206 := Tryz.underlying217
 a206 := Tryz.isAgg217
 z206 := Tryz.sizeOf217
 v206 := Tryz.zeroValue217
 t208 := Tryz.underlying219
 a208 := Tryz.isAgg219
 z208 := Tryz.sizeOf219
 v208 := Tryz.zeroValue219
 g3 := by kernel_rfl
 g4 := by kernel_rfl
 g13 := by kernel_rfl }
theorem Tryz.Builder_Extra_158 : Builder.Extra Tryz.prog Tryz.lays158_ren := {
 sizeBuilder := by kernel_rfl
 liesBuilder := by kernel_rfl
 t5 := Tryz.underlying5
 a5 := Tryz.isAgg5
 z5 := Tryz.sizeOf5
 v5 := Tryz.zeroValue5
 infoByte := by kernel_rfl
 cellsByte := by kernel_rfl
 sizeByte := by kernel_rfl
 neB5 := by decide }
def Tryz.lays161_ren : Go.Shelf.Ren := ⟨fun | 161 => 62 | 231 => 106 | 227 => 103 | 233 => 107 | 235 => 108 | 228 => 104 | 197 => 141 | 151 => 142 | 260 => 160 | 152 => 101 | 137 => 136 | 119 => 137 | 224 => 138 | 225 => 139 | 217 => 158 | 266 => 182 | n => n, fun | 9 => 9 | 4 => 4 | 3 => 3 | 5 => 5 | 117 => 131 | 116 => 130 | 0 => 0 | 124 => 135 | 105 => 155 | 21 => 21 | 119 => 199 | 46 => 154 | 139 => 202 | 138 => 201 | n => n, fun | 3 => 4 | 4 => 5 | n => n⟩
theorem Tryz.lays161 : Go.Proofs.Lays.n161 Tryz.prog Tryz.lays161_ren := {
 mixed := by kernel_rfl
 f119 := Tryz.func137.trans (congrArg some (by kernel_rfl))
 f137 := Tryz.func136.trans (congrArg some (by kernel_rfl))
 f151 := Tryz.func142.trans (congrArg some (by kernel_rfl))
 f152 := Tryz.func101.trans (congrArg some (by kernel_rfl))
 f161 := Tryz.func62.trans (congrArg some (by kernel_rfl))
 f197 := Tryz.func141.trans (congrArg some (by kernel_rfl))
 f217 := Tryz.func158.trans (congrArg some (by kernel_rfl))
 f224 := Tryz.func138.trans (congrArg some (by kernel_rfl))
 f225 := Tryz.func139.trans (congrArg some (by kernel_rfl))
 f227 := Tryz.func103.trans (congrArg some (by kernel_rfl))
 f228 := Tryz.func104.trans (congrArg some (by kernel_rfl))
 f231 := Tryz.func106.trans (congrArg some (by kernel_rfl))
 f233 := Tryz.func107.trans (congrArg some (by kernel_rfl))
 f235 := Tryz.func108.trans (congrArg some (by kernel_rfl))
 f260 := Tryz.func160.trans (congrArg some (by kernel_rfl))
 f266 := Tryz.func182.trans (congrArg some (by kernel_rfl))
 t0 := Tryz.underlying0
 a0 := Tryz.isAgg0
 z0 := Tryz.sizeOf0
 v0 := Tryz.zeroValue0
 t3 := Tryz.underlying3
 a3 := Tryz.isAgg3
 z3 := Tryz.sizeOf3
 v3 := Tryz.zeroValue3
 t4 := Tryz.underlying4
 a4 := Tryz.isAgg4
 z4 := Tryz.sizeOf4
 v4 := Tryz.zeroValue4
 t5 := Tryz.underlying5
 a5 := Tryz.isAgg5
 z5 := Tryz.sizeOf5
 v5 := Tryz.zeroValue5
 t9 := Tryz.underlying9
 a9 := Tryz.isAgg9
 z9 := Tryz.sizeOf9
 v9 := Tryz.zeroValue9
 t21 := Tryz.underlying21
 a21 := Tryz.isAgg21
 z21 := Tryz.sizeOf21
 v21 := Tryz.zeroValue21
 t46 := Tryz.underlying154
 a46 := Tryz.isAgg154
 z46 := Tryz.sizeOf154
 v46 := Tryz.zeroValue154
 t105 := Tryz.underlying155
 a105 := Tryz.isAgg155
 z105 := Tryz.sizeOf155
 v105 := Tryz.zeroValue155
 t116 := Tryz.underlying130
 a116 := Tryz.isAgg130
 z116 := Tryz.sizeOf130
 t117 := Tryz.underlying131
 a117 := Tryz.isAgg131
 z117 := Tryz.sizeOf131
 v117 := Tryz.zeroValue131
 t119 := Tryz.underlying199
 a119 := Tryz.isAgg199
 z119 := Tryz.sizeOf199
 t124 := Tryz.underlying135
 a124 := Tryz.isAgg135
 z124 := Tryz.sizeOf135
 v124 := Tryz.zeroValue135
 t138 := Tryz.underlying201
 a138 := Tryz.isAgg201
 z138 := Tryz.sizeOf201
 v138 := Tryz.zeroValue201
 t139 := Tryz.underlying202
 a139 := Tryz.isAgg202
 z139 := Tryz.sizeOf202
 v139 := Tryz.zeroValue202
 g3 := by kernel_rfl
 g4 := by kernel_rfl }
open Go.RowKit in
theorem Tryz.strings_TrimLeft_one (s : ByteArray) (c : UInt8) (hc : c.toNat < 128) (w : World) :
  Calls Tryz.prog 62 #[.string s, .string ⟨#[c]⟩] w fun e w' => e = .returned (.string ⟨(Lib.trimLeftB s.data.toList c).toArray⟩) ∧ w' = w := Any.strings_TrimLeft_one Tryz.lays161 s c hc w
def Tryz.lays162_ren : Go.Shelf.Ren := ⟨fun | 162 => 63 | 232 => 109 | 227 => 103 | 234 => 110 | 236 => 111 | 228 => 104 | 271 => 143 | 151 => 142 | 120 => 161 | 197 => 141 | 152 => 101 | 260 => 160 | 137 => 136 | 119 => 137 | 224 => 138 | 225 => 139 | 217 => 158 | 266 => 182 | n => n, fun | 9 => 9 | 4 => 4 | 3 => 3 | 5 => 5 | 117 => 131 | 116 => 130 | 0 => 0 | 124 => 135 | 21 => 21 | 105 => 155 | 46 => 154 | 119 => 199 | 139 => 202 | 138 => 201 | n => n, fun | 3 => 4 | 4 => 5 | n => n⟩
theorem Tryz.lays162 : Go.Proofs.Lays.n162 Tryz.prog Tryz.lays162_ren := {
 mixed := by kernel_rfl
 f119 := Tryz.func137.trans (congrArg some (by kernel_rfl))
 f120 := Tryz.func161.trans (congrArg some (by kernel_rfl))
 f137 := Tryz.func136.trans (congrArg some (by kernel_rfl))
 f151 := Tryz.func142.trans (congrArg some (by kernel_rfl))
 f152 := Tryz.func101.trans (congrArg some (by kernel_rfl))
 f162 := Tryz.func63.trans (congrArg some (by kernel_rfl))
 f197 := Tryz.func141.trans (congrArg some (by kernel_rfl))
 f217 := Tryz.func158.trans (congrArg some (by kernel_rfl))
 f224 := Tryz.func138.trans (congrArg some (by kernel_rfl))
 f225 := Tryz.func139.trans (congrArg some (by kernel_rfl))
 f227 := Tryz.func103.trans (congrArg some (by kernel_rfl))
 f228 := Tryz.func104.trans (congrArg some (by kernel_rfl))
 f232 := Tryz.func109.trans (congrArg some (by kernel_rfl))
 f234 := Tryz.func110.trans (congrArg some (by kernel_rfl))
 f236 := Tryz.func111.trans (congrArg some (by kernel_rfl))
 f260 := Tryz.func160.trans (congrArg some (by kernel_rfl))
 f266 := Tryz.func182.trans (congrArg some (by kernel_rfl))
 f271 := Tryz.func143.trans (congrArg some (by kernel_rfl))
 t0 := Tryz.underlying0
 a0 := Tryz.isAgg0
 z0 := Tryz.sizeOf0
 v0 := Tryz.zeroValue0
 t3 := Tryz.underlying3
 a3 := Tryz.isAgg3
 z3 := Tryz.sizeOf3
 v3 := Tryz.zeroValue3
 t4 := Tryz.underlying4
 a4 := Tryz.isAgg4
 z4 := Tryz.sizeOf4
 v4 := Tryz.zeroValue4
 t5 := Tryz.underlying5
 a5 := Tryz.isAgg5
 z5 := Tryz.sizeOf5
 v5 := Tryz.zeroValue5
 t9 := Tryz.underlying9
 a9 := Tryz.isAgg9
 z9 := Tryz.sizeOf9
 v9 := Tryz.zeroValue9
 t21 := Tryz.underlying21
 a21 := Tryz.isAgg21
 z21 := Tryz.sizeOf21
 v21 := Tryz.zeroValue21
 t46 := Tryz.underlying154
 a46 := Tryz.isAgg154
 z46 := Tryz.sizeOf154
 v46 := Tryz.zeroValue154
 t105 := Tryz.underlying155
 a105 := Tryz.isAgg155
 z105 := Tryz.sizeOf155
 v105 := Tryz.zeroValue155
 t116 := Tryz.underlying130
 a116 := Tryz.isAgg130
 z116 := Tryz.sizeOf130
 t117 := Tryz.underlying131
 a117 := Tryz.isAgg131
 z117 := Tryz.sizeOf131
 v117 := Tryz.zeroValue131
 t119 := Tryz.underlying199
 a119 := Tryz.isAgg199
 z119 := Tryz.sizeOf199
 t124 := Tryz.underlying135
 a124 := Tryz.isAgg135
 z124 := Tryz.sizeOf135
 v124 := Tryz.zeroValue135
 t138 := Tryz.underlying201
 a138 := Tryz.isAgg201
 z138 := Tryz.sizeOf201
 v138 := Tryz.zeroValue201
 t139 := Tryz.underlying202
 a139 := Tryz.isAgg202
 z139 := Tryz.sizeOf202
 v139 := Tryz.zeroValue202
 g3 := by kernel_rfl
 g4 := by kernel_rfl }
open Go.RowKit in
theorem Tryz.strings_TrimRight_one (s : ByteArray) (c : UInt8) (hc : c.toNat < 128) (w : World) (hs : s.size ≤ 9223372036854775807) :
  Calls Tryz.prog 63 #[.string s, .string ⟨#[c]⟩] w fun e w' => e = .returned (.string ⟨(Lib.trimRightB s.data.toList c).toArray⟩) ∧ w' = w := Any.strings_TrimRight_one Tryz.lays162 s c hc w hs
def Tryz.laysM171_ren : Go.Shelf.Ren := ⟨fun | 171 => 66 | 243 => 113 | 246 => 144 | 283 => 162 | 284 => 163 | 285 => 164 | 286 => 165 | 129 => 185 | 317 => 184 | 318 => 186 | 319 => 187 | 320 => 188 | 337 => 200 | 338 => 201 | n => n, fun | 3 => 3 | 9 => 9 | 2 => 2 | 4 => 4 | 171 => 174 | 0 => 0 | 53 => 165 | 37 => 101 | 5 => 5 | 173 => 177 | 212 => 204 | 51 => 196 | 20 => 20 | 213 => 205 | 46 => 154 | 232 => 220 | 233 => 221 | n => n, fun | 17 => 6 | 18 => 7 | 19 => 8 | n => n⟩
theorem Tryz.laysM171 : Go.Proofs.LaysM.n171 Tryz.prog Tryz.laysM171_ren := {
 mixed := by kernel_rfl
 f129 := Tryz.func185.trans (congrArg some (by kernel_rfl))
 f171 := Tryz.func66.trans (congrArg some (by kernel_rfl))
 f243 := Tryz.func113.trans (congrArg some (by kernel_rfl))
 f246 := Tryz.func144.trans (congrArg some (by kernel_rfl))
 f283 := Tryz.func162.trans (congrArg some (by kernel_rfl))
 f284 := Tryz.func163.trans (congrArg some (by kernel_rfl))
 f285 := Tryz.func164.trans (congrArg some (by kernel_rfl))
 f286 := Tryz.func165.trans (congrArg some (by kernel_rfl))
 f317 := Tryz.func184.trans (congrArg some (by kernel_rfl))
 f318 := Tryz.func186.trans (congrArg some (by kernel_rfl))
 f319 := Tryz.func187.trans (congrArg some (by kernel_rfl))
 f320 := Tryz.func188.trans (congrArg some (by kernel_rfl))
 f337 := Tryz.func200.trans (congrArg some (by kernel_rfl))
 f338 := Tryz.func201.trans (congrArg some (by kernel_rfl))
 t0 := Tryz.underlying0
 a0 := Tryz.isAgg0
 z0 := Tryz.sizeOf0
 v0 := Tryz.zeroValue0
 t2 := Tryz.underlying2
 a2 := Tryz.isAgg2
 z2 := Tryz.sizeOf2
 v2 := Tryz.zeroValue2
 t3 := Tryz.underlying3
 a3 := Tryz.isAgg3
 z3 := Tryz.sizeOf3
 v3 := Tryz.zeroValue3
 t4 := Tryz.underlying4
 a4 := Tryz.isAgg4
 z4 := Tryz.sizeOf4
 v4 := Tryz.zeroValue4
 t5 := Tryz.underlying5
 a5 := Tryz.isAgg5
 z5 := Tryz.sizeOf5
 v5 := Tryz.zeroValue5
 t9 := Tryz.underlying9
 a9 := Tryz.isAgg9
 z9 := Tryz.sizeOf9
 v9 := Tryz.zeroValue9
 t20 := Tryz.underlying20
 a20 := Tryz.isAgg20
 z20 := Tryz.sizeOf20
 v20 := Tryz.zeroValue20
 t37 := Tryz.underlying101
 a37 := Tryz.isAgg101
 z37 := Tryz.sizeOf101
 v37 := Tryz.zeroValue101
 t46 := Tryz.underlying154
 a46 := Tryz.isAgg154
 z46 := Tryz.sizeOf154
 v46 := Tryz.zeroValue154
 t51 := Tryz.underlying196
 a51 := Tryz.isAgg196
 z51 := Tryz.sizeOf196
 v51 := Tryz.zeroValue196
 t53 := Tryz.underlying165
 a53 := Tryz.isAgg165
 z53 := Tryz.sizeOf165
 v53 := Tryz.zeroValue165
 t171 := Tryz.underlying174
 a171 := Tryz.isAgg174
 z171 := Tryz.sizeOf174
 v171 := Tryz.zeroValue174
 t173 := Tryz.underlying177
 a173 := Tryz.isAgg177
 z173 := Tryz.sizeOf177
 v173 := Tryz.zeroValue177
 t212 := Tryz.underlying204
 a212 := Tryz.isAgg204
 z212 := Tryz.sizeOf204
 v212 := Tryz.zeroValue204
 t213 := Tryz.underlying205
 a213 := Tryz.isAgg205
 z213 := Tryz.sizeOf205
 t232 := Tryz.underlying220
 a232 := Tryz.isAgg220
 z232 := Tryz.sizeOf220
 v232 := Tryz.zeroValue220
 t233 := Tryz.underlying221
 a233 := Tryz.isAgg221
 z233 := Tryz.sizeOf221
 v233 := Tryz.zeroValue221
 g17 := by kernel_rfl
 g18 := by kernel_rfl
 g19 := by kernel_rfl
 i0 := by kernel_rfl
 i2 := by kernel_rfl
 i3 := by kernel_rfl
 i4 := by kernel_rfl
 i5 := by kernel_rfl
 i9 := by kernel_rfl
 i20 := by kernel_rfl
 i37 := by kernel_rfl
 i46 := by kernel_rfl
 i51 := by kernel_rfl
 i53 := by kernel_rfl
 i171 := by kernel_rfl
 i173 := by kernel_rfl
 i212 := by kernel_rfl
 i232 := by kernel_rfl
 i233 := by kernel_rfl
 m17 := by kernel_rfl
 m18 := by kernel_rfl
 m19 := by kernel_rfl }
open Go.RowKit Go.Sort Go.Lib in
theorem Tryz.strconv_Itoa (n : Int) (h0 : -9223372036854775808 ≤ n) (h1 : n ≤ 9223372036854775807) (w : World) (htab : Lib.TabIs Tryz.prog w "internal/strconv.uint64pow10" .u64 Lib.pow10Tab) :
  Calls Tryz.prog 66 #[.int .i64 n] w fun e w' => e = .returned (.string ⟨(Lib.itoa n).toArray⟩) ∧ ∃ k os, w' = grow (w.drewN k) os := Any.strconv_Itoa Tryz.laysM171 n h0 h1 w htab
def Tryz.laysC172_ren : Go.Shelf.Ren := ⟨fun | 172 => 45 | 244 => 88 | 245 => 89 | 247 => 124 | 279 => 125 | 280 => 126 | 281 => 127 | 282 => 128 | 287 => 150 | 316 => 151 | 171 => 66 | 205 => 152 | 321 => 177 | 322 => 178 | 243 => 113 | 246 => 144 | 283 => 162 | 284 => 163 | 285 => 164 | 286 => 165 | 129 => 185 | 317 => 184 | 318 => 186 | 319 => 187 | 320 => 188 | 337 => 200 | 338 => 201 | n => n, fun | 9 => 9 | 3 => 3 | 75 => 76 | 76 => 77 | 4 => 4 | 5 => 5 | 167 => 143 | 37 => 101 | 0 => 0 | 85 => 144 | 2 => 2 | 168 => 146 | 53 => 165 | 175 => 166 | 46 => 154 | 210 => 169 | 127 => 137 | 145 => 190 | 143 => 188 | 21 => 21 | 171 => 174 | 173 => 177 | 212 => 204 | 51 => 196 | 20 => 20 | 213 => 205 | 232 => 220 | 233 => 221 | 80 => 107 | n => n, fun | 15 => 0 | 16 => 1 | 17 => 6 | 18 => 7 | 19 => 8 | n => n⟩
theorem Tryz.laysC172 : Go.Proofs.LaysC.n172 Tryz.prog Tryz.laysC172_ren := {
 mixed := by kernel_rfl
 f129 := Tryz.func185.trans (congrArg some (by kernel_rfl))
 f171 := Tryz.func66.trans (congrArg some (by kernel_rfl))
 f172 := Tryz.func45.trans (congrArg some (by kernel_rfl))
 f205 := Tryz.func152.trans (congrArg some (by kernel_rfl))
 f243 := Tryz.func113.trans (congrArg some (by kernel_rfl))
 f244 := Tryz.func88.trans (congrArg some (by kernel_rfl))
 f245 := Tryz.func89.trans (congrArg some (by kernel_rfl))
 f246 := Tryz.func144.trans (congrArg some (by kernel_rfl))
 f247 := Tryz.func124.trans (congrArg some (by kernel_rfl))
 f279 := Tryz.func125.trans (congrArg some (by kernel_rfl))
 f280 := Tryz.func126.trans (congrArg some (by kernel_rfl))
 f281 := Tryz.func127.trans (congrArg some (by kernel_rfl))
 f282 := Tryz.func128.trans (congrArg some (by kernel_rfl))
 f283 := Tryz.func162.trans (congrArg some (by kernel_rfl))
 f284 := Tryz.func163.trans (congrArg some (by kernel_rfl))
 f285 := Tryz.func164.trans (congrArg some (by kernel_rfl))
 f286 := Tryz.func165.trans (congrArg some (by kernel_rfl))
 f287 := Tryz.func150.trans (congrArg some (by kernel_rfl))
 f316 := Tryz.func151.trans (congrArg some (by kernel_rfl))
 f317 := Tryz.func184.trans (congrArg some (by kernel_rfl))
 f318 := Tryz.func186.trans (congrArg some (by kernel_rfl))
 f319 := Tryz.func187.trans (congrArg some (by kernel_rfl))
 f320 := Tryz.func188.trans (congrArg some (by kernel_rfl))
 f321 := Tryz.func177.trans (congrArg some (by kernel_rfl))
 f322 := Tryz.func178.trans (congrArg some (by kernel_rfl))
 f337 := Tryz.func200.trans (congrArg some (by kernel_rfl))
 f338 := Tryz.func201.trans (congrArg some (by kernel_rfl))
 t0 := Tryz.underlying0
 a0 := Tryz.isAgg0
 z0 := Tryz.sizeOf0
 v0 := Tryz.zeroValue0
 t2 := Tryz.underlying2
 a2 := Tryz.isAgg2
 z2 := Tryz.sizeOf2
 v2 := Tryz.zeroValue2
 t3 := Tryz.underlying3
 a3 := Tryz.isAgg3
 z3 := Tryz.sizeOf3
 v3 := Tryz.zeroValue3
 t4 := Tryz.underlying4
 a4 := Tryz.isAgg4
 z4 := Tryz.sizeOf4
 v4 := Tryz.zeroValue4
 t5 := Tryz.underlying5
 a5 := Tryz.isAgg5
 z5 := Tryz.sizeOf5
 v5 := Tryz.zeroValue5
 t9 := Tryz.underlying9
 a9 := Tryz.isAgg9
 z9 := Tryz.sizeOf9
 v9 := Tryz.zeroValue9
 t20 := Tryz.underlying20
 a20 := Tryz.isAgg20
 z20 := Tryz.sizeOf20
 v20 := Tryz.zeroValue20
 t21 := Tryz.underlying21
 a21 := Tryz.isAgg21
 z21 := Tryz.sizeOf21
 v21 := Tryz.zeroValue21
 t37 := Tryz.underlying101
 a37 := Tryz.isAgg101
 z37 := Tryz.sizeOf101
 v37 := Tryz.zeroValue101
 t46 := Tryz.underlying154
 a46 := Tryz.isAgg154
 z46 := Tryz.sizeOf154
 v46 := Tryz.zeroValue154
 t51 := Tryz.underlying196
 a51 := Tryz.isAgg196
 z51 := Tryz.sizeOf196
 v51 := Tryz.zeroValue196
 t53 := Tryz.underlying165
 a53 := Tryz.isAgg165
 z53 := Tryz.sizeOf165
 v53 := Tryz.zeroValue165
 t75 := Tryz.underlying76
 a75 := Tryz.isAgg76
 z75 := Tryz.sizeOf76
 v75 := Tryz.zeroValue76
 t76 := Tryz.underlying77
 a76 := Tryz.isAgg77
 z76 := Tryz.sizeOf77
 v76 := Tryz.zeroValue77
 t85 := Tryz.underlying144
 a85 := Tryz.isAgg144
 z85 := Tryz.sizeOf144
 v85 := Tryz.zeroValue144
 t127 := Tryz.underlying137
 a127 := Tryz.isAgg137
 z127 := Tryz.sizeOf137
 v127 := Tryz.zeroValue137
 t143 := Tryz.underlying188
 a143 := Tryz.isAgg188
 z143 := Tryz.sizeOf188
 v143 := Tryz.zeroValue188
 t145 := Tryz.underlying190
 a145 := Tryz.isAgg190
 z145 := Tryz.sizeOf190
 v145 := Tryz.zeroValue190
 t167 := Tryz.underlying143
 a167 := Tryz.isAgg143
 z167 := Tryz.sizeOf143
 v167 := Tryz.zeroValue143
 t168 := Tryz.underlying146
 a168 := Tryz.isAgg146
 z168 := Tryz.sizeOf146
 v168 := Tryz.zeroValue146
 t171 := Tryz.underlying174
 a171 := Tryz.isAgg174
 z171 := Tryz.sizeOf174
 v171 := Tryz.zeroValue174
 t173 := Tryz.underlying177
 a173 := Tryz.isAgg177
 z173 := Tryz.sizeOf177
 v173 := Tryz.zeroValue177
 t175 := Tryz.underlying166
 a175 := Tryz.isAgg166
 z175 := Tryz.sizeOf166
 v175 := Tryz.zeroValue166
 t210 := Tryz.underlying169
 a210 := Tryz.isAgg169
 z210 := Tryz.sizeOf169
 v210 := Tryz.zeroValue169
 t212 := Tryz.underlying204
 a212 := Tryz.isAgg204
 z212 := Tryz.sizeOf204
 v212 := Tryz.zeroValue204
 t213 := Tryz.underlying205
 a213 := Tryz.isAgg205
 z213 := Tryz.sizeOf205
 t232 := Tryz.underlying220
 a232 := Tryz.isAgg220
 z232 := Tryz.sizeOf220
 v232 := Tryz.zeroValue220
 t233 := Tryz.underlying221
 a233 := Tryz.isAgg221
 z233 := Tryz.sizeOf221
 v233 := Tryz.zeroValue221
 g15 := by kernel_rfl
 g16 := by kernel_rfl
 g17 := by kernel_rfl
 g18 := by kernel_rfl
 g19 := by kernel_rfl
 t80 := Tryz.underlying107
 a80 := Tryz.isAgg107
 z80 := Tryz.sizeOf107
 v80 := Tryz.zeroValue107
 i0 := by kernel_rfl
 i2 := by kernel_rfl
 i3 := by kernel_rfl
 i4 := by kernel_rfl
 i5 := by kernel_rfl
 i9 := by kernel_rfl
 i20 := by kernel_rfl
 i21 := by kernel_rfl
 i37 := by kernel_rfl
 i46 := by kernel_rfl
 i51 := by kernel_rfl
 i53 := by kernel_rfl
 i75 := by kernel_rfl
 i76 := by kernel_rfl
 i80 := by kernel_rfl
 i85 := by kernel_rfl
 i127 := by kernel_rfl
 i143 := by kernel_rfl
 i145 := by kernel_rfl
 i167 := by kernel_rfl
 i168 := by kernel_rfl
 i171 := by kernel_rfl
 i173 := by kernel_rfl
 i175 := by kernel_rfl
 i210 := by kernel_rfl
 i212 := by kernel_rfl
 i232 := by kernel_rfl
 i233 := by kernel_rfl
 m15 := by kernel_rfl
 m16 := by kernel_rfl
 m17 := by kernel_rfl
 m18 := by kernel_rfl
 m19 := by kernel_rfl
 c0 := by kernel_rfl
 c2 := by kernel_rfl
 c3 := by kernel_rfl
 c4 := by kernel_rfl
 c5 := by kernel_rfl
 c9 := by kernel_rfl
 c20 := by kernel_rfl
 c21 := by kernel_rfl
 c37 := by kernel_rfl
 c46 := by kernel_rfl
 c51 := by kernel_rfl
 c53 := by kernel_rfl
 c75 := by kernel_rfl
 c76 := by kernel_rfl
 c80 := by kernel_rfl
 c85 := by kernel_rfl
 c127 := by kernel_rfl
 c143 := by kernel_rfl
 c145 := by kernel_rfl
 c167 := by kernel_rfl
 c168 := by kernel_rfl
 c171 := by kernel_rfl
 c173 := by kernel_rfl
 c175 := by kernel_rfl
 c210 := by kernel_rfl
 c212 := by kernel_rfl
 c213 := by kernel_rfl
 c232 := by kernel_rfl
 c233 := by kernel_rfl }
open Go.RowKit in
theorem Tryz.strconv_Atoi_ok (s : ByteArray) (hmax : s.size ≤ 9223372036854775806) (v : Int) (h : Lib.atoiAll s.data.toList = .ok v) (w : World) :
  Calls Tryz.prog 45 #[.string s] w fun e w' => e = .returned (.tuple #[.int .i64 v, .nilIface]) ∧ (w' = w ∨ ∃ t, w' = Lib.bytesWorld w 5 t) := Any.strconv_Atoi_ok Tryz.laysC172 s hmax v h w
open Go.RowKit in
theorem Tryz.strconv_Atoi_syntax_var (s : ByteArray) (hlim : s.size ≤ 281474976710656) (h1 : ∀ v, Lib.atoiAll s.data.toList ≠ .ok v) (h2 : Lib.atoiAll s.data.toList ≠ .range) (tp : TypeId) (p : Value) (w : World) (hvar : w.var? Tryz.prog "strconv.ErrSyntax" = some #[.iface tp p]) :
  Calls Tryz.prog 45 #[.string s] w fun e w' => ∃ N, e = .returned (.tuple #[.int .i64 0, .iface 146 (.pointer (some ⟨N, 0, none⟩))]) ∧ w.heap.size ≤ N ∧ w'.heap[N]? = some (.cells #[.string ⟨#[65, 116, 111, 105]⟩, .string s, .iface tp p] 169 (0, 0)) ∧ Below w.heap.size w w' := Any.strconv_Atoi_syntax_var Tryz.laysC172 s hlim (by cases hx : Lib.atoiAll s.data.toList <;> first | rfl | exact absurd hx (h1 _) | exact absurd hx h2) tp p w hvar
open Go.RowKit in
theorem Tryz.strconv_Atoi_range_var (s : ByteArray) (hlim : s.size ≤ 281474976710656) (h : Lib.atoiAll s.data.toList = .range) (tp : TypeId) (p : Value) (w : World) (hvar : w.var? Tryz.prog "strconv.ErrRange" = some #[.iface tp p]) :
  Calls Tryz.prog 45 #[.string s] w fun e w' => ∃ N, e = .returned (.tuple #[.int .i64 (Lib.atoiSat s.data.toList), .iface 146 (.pointer (some ⟨N, 0, none⟩))]) ∧ w.heap.size ≤ N ∧ w'.heap[N]? = some (.cells #[.string ⟨#[65, 116, 111, 105]⟩, .string s, .iface tp p] 169 (0, 0)) ∧ Below w.heap.size w w' := Any.strconv_Atoi_range_var Tryz.laysC172 s hlim h tp p w hvar
def Tryz.lays143_ren : Go.Shelf.Ren := ⟨fun | 143 => 145 | 219 => 140 | 217 => 158 | 225 => 139 | 224 => 138 | 267 => 159 | 266 => 182 | 314 => 183 | n => n, fun | 9 => 9 | 3 => 3 | 4 => 4 | 5 => 5 | 46 => 154 | 146 => 197 | 51 => 196 | n => n, fun | 1 => 2 | n => n⟩
theorem Tryz.lays143 : Go.Proofs.Lays.n143 Tryz.prog Tryz.lays143_ren := {
 mixed := by kernel_rfl
 f143 := Tryz.func145.trans (congrArg some (by kernel_rfl))
 f217 := Tryz.func158.trans (congrArg some (by kernel_rfl))
 f219 := Tryz.func140.trans (congrArg some (by kernel_rfl))
 f224 := Tryz.func138.trans (congrArg some (by kernel_rfl))
 f225 := Tryz.func139.trans (congrArg some (by kernel_rfl))
 f266 := Tryz.func182.trans (congrArg some (by kernel_rfl))
 f267 := Tryz.func159.trans (congrArg some (by kernel_rfl))
 f314 := Tryz.func183.trans (congrArg some (by kernel_rfl))
 t3 := Tryz.underlying3
 a3 := Tryz.isAgg3
 z3 := Tryz.sizeOf3
 v3 := Tryz.zeroValue3
 t4 := Tryz.underlying4
 a4 := Tryz.isAgg4
 z4 := Tryz.sizeOf4
 v4 := Tryz.zeroValue4
 t5 := Tryz.underlying5
 a5 := Tryz.isAgg5
 z5 := Tryz.sizeOf5
 v5 := Tryz.zeroValue5
 t9 := Tryz.underlying9
 a9 := Tryz.isAgg9
 z9 := Tryz.sizeOf9
 v9 := Tryz.zeroValue9
 t46 := Tryz.underlying154
 a46 := Tryz.isAgg154
 z46 := Tryz.sizeOf154
 v46 := Tryz.zeroValue154
 t51 := Tryz.underlying196
 a51 := Tryz.isAgg196
 z51 := Tryz.sizeOf196
 v51 := Tryz.zeroValue196
 t146 := Tryz.underlying197
 a146 := Tryz.isAgg197
 z146 := Tryz.sizeOf197
 v146 := Tryz.zeroValue197
 g1 := by kernel_rfl }
open Go.RowKit Go.Lib in
theorem Tryz.strings_Index (s sub : ByteArray) (m : Int) (w : World) (hs : s.size < 4294967281) (hm : w.cell? ⟨2, 0, none⟩ = some (.int .i64 m)) :
  Calls Tryz.prog 145 #[.string s, .string sub] w fun e w' => e = .returned (.int .i64 (Lib.index s.data.toList sub.data.toList)) ∧ w' = w := Any.strings_Index Tryz.lays143 s sub m w hs hm
def Tryz.lays144_ren : Go.Shelf.Ren := ⟨fun | 144 => 115 | 143 => 145 | 219 => 140 | 217 => 158 | 225 => 139 | 224 => 138 | 267 => 159 | 266 => 182 | 314 => 183 | n => n, fun | 9 => 9 | 4 => 4 | 3 => 3 | 5 => 5 | 46 => 154 | 146 => 197 | 51 => 196 | n => n, fun | 1 => 2 | n => n⟩
theorem Tryz.lays144 : Go.Proofs.Lays.n144 Tryz.prog Tryz.lays144_ren := {
 mixed := by kernel_rfl
 f143 := Tryz.func145.trans (congrArg some (by kernel_rfl))
 f144 := Tryz.func115.trans (congrArg some (by kernel_rfl))
 f217 := Tryz.func158.trans (congrArg some (by kernel_rfl))
 f219 := Tryz.func140.trans (congrArg some (by kernel_rfl))
 f224 := Tryz.func138.trans (congrArg some (by kernel_rfl))
 f225 := Tryz.func139.trans (congrArg some (by kernel_rfl))
 f266 := Tryz.func182.trans (congrArg some (by kernel_rfl))
 f267 := Tryz.func159.trans (congrArg some (by kernel_rfl))
 f314 := Tryz.func183.trans (congrArg some (by kernel_rfl))
 t3 := Tryz.underlying3
 a3 := Tryz.isAgg3
 z3 := Tryz.sizeOf3
 v3 := Tryz.zeroValue3
 t4 := Tryz.underlying4
 a4 := Tryz.isAgg4
 z4 := Tryz.sizeOf4
 v4 := Tryz.zeroValue4
 t5 := Tryz.underlying5
 a5 := Tryz.isAgg5
 z5 := Tryz.sizeOf5
 v5 := Tryz.zeroValue5
 t9 := Tryz.underlying9
 a9 := Tryz.isAgg9
 z9 := Tryz.sizeOf9
 v9 := Tryz.zeroValue9
 t46 := Tryz.underlying154
 a46 := Tryz.isAgg154
 z46 := Tryz.sizeOf154
 v46 := Tryz.zeroValue154
 t51 := Tryz.underlying196
 a51 := Tryz.isAgg196
 z51 := Tryz.sizeOf196
 v51 := Tryz.zeroValue196
 t146 := Tryz.underlying197
 a146 := Tryz.isAgg197
 z146 := Tryz.sizeOf197
 v146 := Tryz.zeroValue197
 g1 := by kernel_rfl }
open Go.RowKit Go.Lib in
theorem Tryz.strings_Contains (s sub : ByteArray) (m : Int) (w : World) (hs : s.size < 4294967281) (hm : w.cell? ⟨2, 0, none⟩ = some (.int .i64 m)) :
  Calls Tryz.prog 115 #[.string s, .string sub] w fun e w' => e = .returned (.bool (Lib.contains s.data.toList sub.data.toList)) ∧ w' = w := Any.strings_Contains Tryz.lays144 s sub m w hs hm
def Tryz.lays145_ren : Go.Shelf.Ren := ⟨fun | 145 => 61 | 220 => 105 | 219 => 140 | 217 => 158 | 225 => 139 | 224 => 138 | 267 => 159 | 266 => 182 | 314 => 183 | n => n, fun | 9 => 9 | 4 => 4 | 59 => 92 | 3 => 3 | 5 => 5 | 46 => 154 | 146 => 197 | 51 => 196 | n => n, fun | 1 => 2 | n => n⟩
theorem Tryz.lays145 : Go.Proofs.Lays.n145 Tryz.prog Tryz.lays145_ren := {
 mixed := by kernel_rfl
 f145 := Tryz.func61.trans (congrArg some (by kernel_rfl))
 f217 := Tryz.func158.trans (congrArg some (by kernel_rfl))
 f219 := Tryz.func140.trans (congrArg some (by kernel_rfl))
 f220 := Tryz.func105.trans (congrArg some (by kernel_rfl))
 f224 := Tryz.func138.trans (congrArg some (by kernel_rfl))
 f225 := Tryz.func139.trans (congrArg some (by kernel_rfl))
 f266 := Tryz.func182.trans (congrArg some (by kernel_rfl))
 f267 := Tryz.func159.trans (congrArg some (by kernel_rfl))
 f314 := Tryz.func183.trans (congrArg some (by kernel_rfl))
 t3 := Tryz.underlying3
 a3 := Tryz.isAgg3
 z3 := Tryz.sizeOf3
 v3 := Tryz.zeroValue3
 t4 := Tryz.underlying4
 a4 := Tryz.isAgg4
 z4 := Tryz.sizeOf4
 v4 := Tryz.zeroValue4
 t5 := Tryz.underlying5
 a5 := Tryz.isAgg5
 z5 := Tryz.sizeOf5
 v5 := Tryz.zeroValue5
 t9 := Tryz.underlying9
 a9 := Tryz.isAgg9
 z9 := Tryz.sizeOf9
 v9 := Tryz.zeroValue9
 t46 := Tryz.underlying154
 a46 := Tryz.isAgg154
 z46 := Tryz.sizeOf154
 v46 := Tryz.zeroValue154
 t51 := Tryz.underlying196
 a51 := Tryz.isAgg196
 z51 := Tryz.sizeOf196
 v51 := Tryz.zeroValue196
 t59 := Tryz.underlying92
 a59 := Tryz.isAgg92
 z59 := Tryz.sizeOf92
 v59 := Tryz.zeroValue92
 t146 := Tryz.underlying197
 a146 := Tryz.isAgg197
 z146 := Tryz.sizeOf197
 v146 := Tryz.zeroValue197
 g1 := by kernel_rfl }
open Go.RowKit Go.Lib in
theorem Tryz.strings_Cut (s sep : ByteArray) (m : Int) (w : World) (hs : s.size < 4294967281) (hm : w.cell? ⟨2, 0, none⟩ = some (.int .i64 m)) :
  Calls Tryz.prog 61 #[.string s, .string sep] w fun e w' => e = .returned (.tuple #[.string ⟨(Lib.cut s.data.toList sep.data.toList).1.toArray⟩, .string ⟨(Lib.cut s.data.toList sep.data.toList).2.1.toArray⟩, .bool (Lib.cut s.data.toList sep.data.toList).2.2]) ∧ ∃ n, w' = w.drewN n := Any.strings_Cut Tryz.lays145 s sep m w hs hm
def Tryz.laysGw17_ren : Go.Shelf.Ren := ⟨fun | 17 => 43 | 15 => 87 | 20 => 123 | n => n, fun | 9 => 9 | 23 => 74 | 4 => 4 | 3 => 3 | 0 => 0 | 21 => 21 | n => n, fun | n => n⟩
theorem Tryz.laysGw17 : Go.Proofs.LaysGw.n17 Tryz.prog Tryz.laysGw17_ren := {
 mixed := by kernel_rfl
 f15 := Tryz.func87.trans (congrArg some (by kernel_rfl))
 f17 := Tryz.func43.trans (congrArg some (by kernel_rfl))
 f20 := Tryz.func123.trans (congrArg some (by kernel_rfl))
 t0 := Tryz.underlying0
 a0 := Tryz.isAgg0
 z0 := Tryz.sizeOf0
 v0 := Tryz.zeroValue0
 i0 := by kernel_rfl
 t3 := Tryz.underlying3
 a3 := Tryz.isAgg3
 z3 := Tryz.sizeOf3
 v3 := Tryz.zeroValue3
 i3 := by kernel_rfl
 t4 := Tryz.underlying4
 a4 := Tryz.isAgg4
 z4 := Tryz.sizeOf4
 v4 := Tryz.zeroValue4
 i4 := by kernel_rfl
 t9 := Tryz.underlying9
 a9 := Tryz.isAgg9
 z9 := Tryz.sizeOf9
 v9 := Tryz.zeroValue9
 i9 := by kernel_rfl
 t21 := Tryz.underlying21
 a21 := Tryz.isAgg21
 z21 := Tryz.sizeOf21
 v21 := Tryz.zeroValue21
 i21 := by kernel_rfl
 t23 := Tryz.underlying74
 a23 := Tryz.isAgg74
 z23 := Tryz.sizeOf74
 v23 := Tryz.zeroValue74
 i23 := by kernel_rfl }
def Tryz.lays99_ren : Go.Shelf.Ren := ⟨fun | 99 => 195 | 206 => 203 | n => n, fun | 9 => 9 | 4 => 4 | 3 => 3 | n => n, fun | n => n⟩
theorem Tryz.lays99 : Go.Proofs.Lays.n99 Tryz.prog Tryz.lays99_ren := {
 mixed := by kernel_rfl
 f99 := Tryz.func195.trans (congrArg some (by kernel_rfl))
 f206 := Tryz.func203.trans (congrArg some (by kernel_rfl))
 t3 := Tryz.underlying3
 a3 := Tryz.isAgg3
 z3 := Tryz.sizeOf3
 v3 := Tryz.zeroValue3
 t4 := Tryz.underlying4
 a4 := Tryz.isAgg4
 z4 := Tryz.sizeOf4
 v4 := Tryz.zeroValue4
 t9 := Tryz.underlying9
 a9 := Tryz.isAgg9
 z9 := Tryz.sizeOf9
 v9 := Tryz.zeroValue9 }
open Go.RowKit Go.Lib in
theorem Tryz.strings_HasPrefix (s p : ByteArray) (w : World) :
  Calls Tryz.prog 195 #[.string s, .string p] w fun e w' => e = .returned (.bool (Lib.hasPrefix s.data.toList p.data.toList)) ∧ w' = w := Any.strings_HasPrefix Tryz.lays99 s p w
def Tryz.lays101_ren : Go.Shelf.Ren := ⟨fun | 101 => 194 | 208 => 202 | 206 => 203 | n => n, fun | 9 => 9 | 4 => 4 | 3 => 3 | n => n, fun | n => n⟩
theorem Tryz.lays101 : Go.Proofs.Lays.n101 Tryz.prog Tryz.lays101_ren := {
 mixed := by kernel_rfl
 f101 := Tryz.func194.trans (congrArg some (by kernel_rfl))
 f206 := Tryz.func203.trans (congrArg some (by kernel_rfl))
 f208 := Tryz.func202.trans (congrArg some (by kernel_rfl))
 t3 := Tryz.underlying3
 a3 := Tryz.isAgg3
 z3 := Tryz.sizeOf3
 v3 := Tryz.zeroValue3
 t4 := Tryz.underlying4
 a4 := Tryz.isAgg4
 z4 := Tryz.sizeOf4
 v4 := Tryz.zeroValue4
 t9 := Tryz.underlying9
 a9 := Tryz.isAgg9
 z9 := Tryz.sizeOf9
 v9 := Tryz.zeroValue9 }
open Go.RowKit Go.Lib in
theorem Tryz.strings_TrimPrefix (s p : ByteArray) (w : World) :
  Calls Tryz.prog 194 #[.string s, .string p] w fun e w' => e = .returned (.string ⟨(Lib.trimPrefix s.data.toList p.data.toList).toArray⟩) ∧ w' = w := Any.strings_TrimPrefix Tryz.lays101 s p w
def Tryz.lays155_ren : Go.Shelf.Ren := ⟨fun | 155 => 84 | 154 => 121 | 138 => 149 | 165 => 129 | 143 => 145 | 166 => 75 | 197 => 141 | 169 => 77 | 195 => 175 | 218 => 176 | 240 => 116 | 241 => 153 | 219 => 140 | 260 => 160 | 276 => 146 | 277 => 179 | 217 => 158 | 225 => 139 | 224 => 138 | 267 => 159 | 266 => 182 | 314 => 183 | n => n, fun | 9 => 9 | 3 => 3 | 4 => 4 | 72 => 103 | 0 => 0 | 76 => 77 | 105 => 155 | 21 => 21 | 5 => 5 | 70 => 100 | 20 => 20 | 37 => 101 | 75 => 76 | 127 => 137 | 164 => 159 | 46 => 154 | 119 => 199 | 139 => 202 | 138 => 201 | 146 => 197 | 51 => 196 | 80 => 107 | n => n, fun | 1 => 2 | 3 => 4 | 4 => 5 | n => n⟩
theorem Tryz.lays155 : Go.Proofs.Lays.n155 Tryz.prog Tryz.lays155_ren := {
 mixed := by kernel_rfl
 f138 := Tryz.func149.trans (congrArg some (by kernel_rfl))
 f143 := Tryz.func145.trans (congrArg some (by kernel_rfl))
 f154 := Tryz.func121.trans (congrArg some (by kernel_rfl))
 f155 := Tryz.func84.trans (congrArg some (by kernel_rfl))
 f165 := Tryz.func129.trans (congrArg some (by kernel_rfl))
 f166 := Tryz.func75.trans (congrArg some (by kernel_rfl))
 f169 := Tryz.func77.trans (congrArg some (by kernel_rfl))
 f195 := Tryz.func175.trans (congrArg some (by kernel_rfl))
 f197 := Tryz.func141.trans (congrArg some (by kernel_rfl))
 f217 := Tryz.func158.trans (congrArg some (by kernel_rfl))
 f218 := Tryz.func176.trans (congrArg some (by kernel_rfl))
 f219 := Tryz.func140.trans (congrArg some (by kernel_rfl))
 f224 := Tryz.func138.trans (congrArg some (by kernel_rfl))
 f225 := Tryz.func139.trans (congrArg some (by kernel_rfl))
 f240 := Tryz.func116.trans (congrArg some (by kernel_rfl))
 f241 := Tryz.func153.trans (congrArg some (by kernel_rfl))
 f260 := Tryz.func160.trans (congrArg some (by kernel_rfl))
 f266 := Tryz.func182.trans (congrArg some (by kernel_rfl))
 f267 := Tryz.func159.trans (congrArg some (by kernel_rfl))
 f276 := Tryz.func146.trans (congrArg some (by kernel_rfl))
 f277 := Tryz.func179.trans (congrArg some (by kernel_rfl))
 f314 := Tryz.func183.trans (congrArg some (by kernel_rfl))
 t0 := Tryz.underlying0
 a0 := Tryz.isAgg0
 z0 := Tryz.sizeOf0
 v0 := Tryz.zeroValue0
 t3 := Tryz.underlying3
 a3 := Tryz.isAgg3
 z3 := Tryz.sizeOf3
 v3 := Tryz.zeroValue3
 t4 := Tryz.underlying4
 a4 := Tryz.isAgg4
 z4 := Tryz.sizeOf4
 v4 := Tryz.zeroValue4
 t5 := Tryz.underlying5
 a5 := Tryz.isAgg5
 z5 := Tryz.sizeOf5
 v5 := Tryz.zeroValue5
 t9 := Tryz.underlying9
 a9 := Tryz.isAgg9
 z9 := Tryz.sizeOf9
 v9 := Tryz.zeroValue9
 t20 := Tryz.underlying20
 a20 := Tryz.isAgg20
 z20 := Tryz.sizeOf20
 v20 := Tryz.zeroValue20
 t21 := Tryz.underlying21
 a21 := Tryz.isAgg21
 z21 := Tryz.sizeOf21
 v21 := Tryz.zeroValue21
 t37 := Tryz.underlying101
 a37 := Tryz.isAgg101
 z37 := Tryz.sizeOf101
 v37 := Tryz.zeroValue101
 t46 := Tryz.underlying154
 a46 := Tryz.isAgg154
 z46 := Tryz.sizeOf154
 v46 := Tryz.zeroValue154
 t51 := Tryz.underlying196
 a51 := Tryz.isAgg196
 z51 := Tryz.sizeOf196
 v51 := Tryz.zeroValue196
 t70 := Tryz.underlying100
 a70 := Tryz.isAgg100
 z70 := Tryz.sizeOf100
 v70 := Tryz.zeroValue100
 t72 := Tryz.underlying103
 a72 := Tryz.isAgg103
 z72 := Tryz.sizeOf103
 v72 := Tryz.zeroValue103
 t75 := Tryz.underlying76
 a75 := Tryz.isAgg76
 z75 := Tryz.sizeOf76
 v75 := Tryz.zeroValue76
 t76 := Tryz.underlying77
 a76 := Tryz.isAgg77
 z76 := Tryz.sizeOf77
 v76 := Tryz.zeroValue77
 t105 := Tryz.underlying155
 a105 := Tryz.isAgg155
 z105 := Tryz.sizeOf155
 v105 := Tryz.zeroValue155
 t119 := Tryz.underlying199
 a119 := Tryz.isAgg199
 z119 := Tryz.sizeOf199
 t127 := Tryz.underlying137
 a127 := Tryz.isAgg137
 z127 := Tryz.sizeOf137
 v127 := Tryz.zeroValue137
 t138 := Tryz.underlying201
 a138 := Tryz.isAgg201
 z138 := Tryz.sizeOf201
 v138 := Tryz.zeroValue201
 t139 := Tryz.underlying202
 a139 := Tryz.isAgg202
 z139 := Tryz.sizeOf202
 v139 := Tryz.zeroValue202
 t146 := Tryz.underlying197
 a146 := Tryz.isAgg197
 z146 := Tryz.sizeOf197
 v146 := Tryz.zeroValue197
 t164 := Tryz.underlying159
 a164 := Tryz.isAgg159
 z164 := Tryz.sizeOf159
 v164 := Tryz.zeroValue159
 g1 := by kernel_rfl
 g3 := by kernel_rfl
 g4 := by kernel_rfl }
theorem Tryz.Builder_Extra_155 : Builder.Extra Tryz.prog Tryz.lays155_ren := {
 sizeBuilder := by kernel_rfl
 liesBuilder := by kernel_rfl
 t5 := Tryz.underlying5
 a5 := Tryz.isAgg5
 z5 := Tryz.sizeOf5
 v5 := Tryz.zeroValue5
 infoByte := by kernel_rfl
 cellsByte := by kernel_rfl
 sizeByte := by kernel_rfl
 neB5 := by decide }
open Go.RowKit Go.Lib in
theorem Tryz.strings_ReplaceAll (s old new : ByteArray) (m : Int) (w : World) (hs : s.size < 4294967281) (hm : w.cell? ⟨2, 0, none⟩ = some (.int .i64 m)) (h1 : 1 ≤ old.size) (hlen : s.size + Lib.countB s old * new.size ≤ 140737488355328) :
  Calls Tryz.prog 84 #[.string s, .string old, .string new] w fun e w' =>
   e = .returned (.string ⟨(Lib.replaceAll s.data.toList old.data.toList new.data.toList).toArray⟩) ∧ Below w.heap.size w w' := Any.strings_ReplaceAll Tryz.lays155 Tryz.Builder_Extra_155 s old new m w hs hm h1 hlen
def Tryz.lays153_ren : Go.Shelf.Ren := ⟨fun | 153 => 60 | 152 => 101 | 226 => 102 | 227 => 103 | 228 => 104 | 137 => 136 | 119 => 137 | 224 => 138 | 225 => 139 | 217 => 158 | 266 => 182 | n => n, fun | 9 => 9 | 3 => 3 | 4 => 4 | 5 => 5 | 21 => 21 | 117 => 131 | 116 => 130 | 0 => 0 | 46 => 154 | 124 => 135 | n => n, fun | n => n⟩
theorem Tryz.lays153 : Go.Proofs.Lays.n153 Tryz.prog Tryz.lays153_ren := {
 mixed := by kernel_rfl
 f119 := Tryz.func137.trans (congrArg some (by kernel_rfl))
 f137 := Tryz.func136.trans (congrArg some (by kernel_rfl))
 f152 := Tryz.func101.trans (congrArg some (by kernel_rfl))
 f153 := Tryz.func60.trans (congrArg some (by kernel_rfl))
 f217 := Tryz.func158.trans (congrArg some (by kernel_rfl))
 f224 := Tryz.func138.trans (congrArg some (by kernel_rfl))
 f225 := Tryz.func139.trans (congrArg some (by kernel_rfl))
 f226 := Tryz.func102.trans (congrArg some (by kernel_rfl))
 f227 := Tryz.func103.trans (congrArg some (by kernel_rfl))
 f228 := Tryz.func104.trans (congrArg some (by kernel_rfl))
 f266 := Tryz.func182.trans (congrArg some (by kernel_rfl))
 t0 := Tryz.underlying0
 a0 := Tryz.isAgg0
 z0 := Tryz.sizeOf0
 v0 := Tryz.zeroValue0
 t3 := Tryz.underlying3
 a3 := Tryz.isAgg3
 z3 := Tryz.sizeOf3
 v3 := Tryz.zeroValue3
 t4 := Tryz.underlying4
 a4 := Tryz.isAgg4
 z4 := Tryz.sizeOf4
 v4 := Tryz.zeroValue4
 t5 := Tryz.underlying5
 a5 := Tryz.isAgg5
 z5 := Tryz.sizeOf5
 v5 := Tryz.zeroValue5
 t9 := Tryz.underlying9
 a9 := Tryz.isAgg9
 z9 := Tryz.sizeOf9
 v9 := Tryz.zeroValue9
 t21 := Tryz.underlying21
 a21 := Tryz.isAgg21
 z21 := Tryz.sizeOf21
 v21 := Tryz.zeroValue21
 t46 := Tryz.underlying154
 a46 := Tryz.isAgg154
 z46 := Tryz.sizeOf154
 v46 := Tryz.zeroValue154
 t116 := Tryz.underlying130
 a116 := Tryz.isAgg130
 z116 := Tryz.sizeOf130
 t117 := Tryz.underlying131
 a117 := Tryz.isAgg131
 z117 := Tryz.sizeOf131
 v117 := Tryz.zeroValue131
 t124 := Tryz.underlying135
 a124 := Tryz.isAgg135
 z124 := Tryz.sizeOf135
 v124 := Tryz.zeroValue135 }
open Go.RowKit Go.Lib in
theorem Tryz.strings_IndexAny_laid (s chars : ByteArray) (w : World) (hs : s.size < 4294967281) (hcs : chars.size < 4294967281) (has : ∀ (j : Nat) b, s.data.toList[j]? = some b → b.toNat < 128) (hac : ∀ (j : Nat) b, chars.data.toList[j]? = some b → b.toNat < 128) :
  Calls Tryz.prog 60 #[.string s, .string chars] w fun e w' => e = .returned (.int .i64 (Lib.indexAny s.data.toList chars.data.toList)) ∧ Below w.heap.size w w' := Any.strings_IndexAny_laid Tryz.lays153 (by kernel_rfl) s chars w hs hcs has hac
open Go.RowKit Go.Lib in
theorem Tryz.strings_ToUpper_any (s : ByteArray) (w : World) (hs : s.size < 35184372088832) (hV : CaseVar 3 caseA w) (hT : Lib.Utf8Tabs 4 5 w) :
  Calls Tryz.prog 91 #[.string s] w fun e w' => e = .returned (.string ⟨(Lib.toUpperD s.data.toList).toArray⟩) ∧ Below w.heap.size w w' := Any.strings_ToUpper_any Tryz.lays158 Tryz.Builder_Extra_158 s w hs hV hT
open Go.RowKit Go.Lib in
theorem Tryz.strings_ContainsFunc_grows (g : Nat) (lb : Array Value) (eg : ∀ args w, (callFunc g args).run Tryz.prog w = .ok (.enter g args) w) (p : Nat → Bool) (s : ByteArray) (w : World) (hp : PredGrows Tryz.prog g lb p w) :
  Calls Tryz.prog 43 #[.string s, .func (.func g) #[] lb] w fun e w' => e = .returned (.bool (decide (0 ≤ Lib.idxFunc p true s))) ∧ Below w.heap.size w w' := Any.strings_ContainsFunc_grows Tryz.laysGw17 g lb eg p s w hp
end Go.Proofs
