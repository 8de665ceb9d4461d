/-
  The statement TokensConstantsCardSaid, proved; part 2 of 8 of its proof.
  An object is turned: a store into a variable, or its right to append taken out.
  A variable that nobody writes any more is known by its content from there on.
  One operation: what the interpreter does, the machine does. Operations that turn no memory.
  One operation: those that turn no memory.
  One operation: parts, addresses, loads.
  One operation: parts of strings, slices and arrays; lengths; conversions that make no memory.
  One operation: those that make memory.
  One operation: slice literals, a string's bytes.
  One operation: stores.
  One operation: append.
  Calls: what a call is asked to do, and the caller's state behind it.
  Calls that see nothing of the caller's own variables.
-/
import Derived.Test.YtfcjjankfjaapaaGreatDoorC0
set_option linter.all false
set_option linter.unusedSectionVars false
set_option linter.unusedVariables false
set_option linter.unusedSimpArgs false
namespace Go.Abs
open Go
section
variable {G : Gh} {w : World} {L : Nat} {P : Program}
theorem storeCells_run (g o : Nat) (t : TypeId) (fz : Nat × Nat) : ∀ (vs : List Value) (i : Nat) (cur : Array Value) (w : World), w.heap[g]? = some (.cells cur t fz) → Unfrozen cur fz →
    o + i + vs.length ≤ cur.size → (∀ v ∈ vs, v.oneCell' = true) → (storeCells ⟨g, o, none⟩ vs i).run P w = .ok () (w.setRow g (putAll cur (o + i) vs))
  | [], i, cur, w, hg, _, _, _ => by
    simp only [storeCells, putAll]
    rw [setRow_self w g cur t fz hg]
    rfl
  | v :: rest, i, cur, w, hg, hu, hl, h1 => by
    have hi : o + i < cur.size := by simp at hl; omega
    have hcell : w.cell? ⟨g, o + i, none⟩ = some cur[o + i] := by simp [World.cell?, hg, hi]
    have hfro : w.frozen? ⟨g, o + i, none⟩ = false := by
      have := hu (o + i) hi
      obtain ⟨lo, hi'⟩ := fz
      simp only [World.frozen?, hg]
      simp only [Bool.and_eq_false_iff, decide_eq_false_iff_not]
      simp only at this
      omega
    have hst : (store ((⟨g, o, none⟩ : Addr).add i) v).run P w = .ok () (w.setRow g (cur.setIfInBounds (o + i) v)) := by
      rw [add_none, run_store P w _ v _ (h1 v (by simp)), hcell]
      simp [hfro, setCell_eq_setRow w g (o + i) cur t fz v hg]
    have ih := storeCells_run g o t fz rest (i + 1) (cur.setIfInBounds (o + i) v) (w.setRow g (cur.setIfInBounds (o + i) v)) (setRow_heap w g cur _ t _ hg) (fun j hj => hu j (by simpa using hj)) (by simp at hl ⊢; omega) (fun x hx => h1 x (by simp [hx]))
    simp only [storeCells, Sem.run_bind, hst, Result.andThen_ok, ih, setRow_setRow, putAll]
    rfl
theorem Le_setRow {b : Nat} {cur cur' : Array Value} {e : TypeId} {fz : Nat × Nat} (hb : w.heap[b]? = some (.cells cur e fz)) (hO : G.O b = 0) (hs : cur'.size = cur.size) : Le G w G (w.setRow b cur') := by
  refine ⟨fun b' es clk h hb' => ?_, fun _ _ h => ⟨h, rfl, rfl⟩, fun b' off v h hc => ?_, fun b' cur2 e2 fz2 h => ?_⟩
  · have hne : b' ≠ b := fun e => by subst e; omega
    exact ⟨h, by rw [setRow_other w b b' cur' hne]; exact hb'⟩
  · have hne : b' ≠ b := fun e => by subst e; omega
    refine ⟨h, ?_⟩
    rw [← hc]
    simp only [World.cell?]
    rw [setRow_other w b b' cur' hne]
  · by_cases hne : b' = b
    · subst hne
      rw [hb] at h
      obtain ⟨rfl, rfl, rfl⟩ := (Obj.cells.injEq ..).mp (Option.some.inj h)
      exact ⟨cur', fz, setRow_heap w b' cur cur' e fz hb, hs⟩
    · exact ⟨cur2, fz2, by rw [setRow_other w b b' cur' hne]; exact h, rfl⟩
theorem muOb_set {H : Mu} {lev i : Nat} {o : Ob} (h : isLive (muOb H lev i)) (l j : Nat) : muOb (muSet H lev i o) l j = if l = lev ∧ j = i then o else muOb H l j := by
  unfold muSet
  cases hl : H[lev]? with
  | none => simp only [muOb, hl] at h; exact h.elim
  | some lam =>
    have hlt : lev < H.length := (List.getElem?_eq_some_iff.1 hl).1
    have hi : i < lam.length := by
      simp only [muOb, hl] at h
      by_cases hi : i < lam.length
      · exact hi
      · rw [List.getElem?_eq_none (by omega)] at h; exact h.elim
    simp only [muOb]
    by_cases e : l = lev
    · subst e
      rw [List.getElem?_set_self hlt, hl]
      simp only [true_and]
      by_cases e2 : j = i
      · subst e2; rw [List.getElem?_set_self hi]; simp
      · rw [List.getElem?_set_ne (by omega)]; simp [e2]
    · rw [List.getElem?_set_ne (by omega)]; simp [e]
theorem muSet_len {H : Mu} {lev i : Nat} {o : Ob} : (muSet H lev i o).length = H.length ∧ ∀ l, ((muSet H lev i o).getD l []).length = (H.getD l []).length := by
  unfold muSet
  cases hl : H[lev]? with
  | none => exact ⟨rfl, fun _ => rfl⟩
  | some lam =>
    refine ⟨by simp, fun l => ?_⟩
    simp only [List.getD_eq_getElem?_getD]
    by_cases e : l = lev
    · subst e
      rw [List.getElem?_set_self (List.getElem?_eq_some_iff.1 hl).1, hl]
      simp
    · rw [List.getElem?_set_ne (by omega)]
theorem Rel.setOb {s s1 : S} {μ μ1 : Mu} {tm : Array Value} (R : Rel G L s μ tm w) {lev i : Nat} {o' : Ob} (hl : isLive (obAt (μ ++ [s.lam]) lev i)) {cur cur' : Array Value} {e : TypeId} {fz : Nat × Nat}
    (hb : w.heap[G.β lev i]? = some (.cells cur e fz)) (hs : cur'.size = cur.size)
    (hfr : s1.fr = s.fr) (hp : s1.pushed = s.pushed) (hlen : s1.lam.length = s.lam.length) (hμlen : μ1.length = μ.length) (hH : μ1 ++ [s1.lam] = muSet (μ ++ [s.lam]) lev i o')
    (hob : ∀ G' w', Le G w G' w' → G' = G → w' = w.setRow (G.β lev i) cur' → (lev = L → ObR G' w' L s.lam.length (G.β lev i) (G.sz lev i) o') ∧ (lev < L → ObR (G'.below lev) w' lev 0 (G.β lev i) (G.sz lev i) o'))
    (hown : ∀ cs' k b, o' = .cells cs' → CellOwns cs' cur' k b → OwnsAt G w s.fr tm (μ ++ [s.lam]) (.ob lev i k) b ∨
      ((∀ l, ¬ OwnsAt G w s.fr tm (μ ++ [s.lam]) l b) ∧ (∀ lev i, isLive (obAt (μ ++ [s.lam]) lev i) → G.β lev i ≠ b) ∧ ∀ k', CellOwns cs' cur' k' b → k' = k)) :
    Rel G L s1 μ1 tm (w.setRow (G.β lev i) cur') ∧ Le G w G (w.setRow (G.β lev i) cur') ∧
    (∀ b, Touch G (w.setRow (G.β lev i) cur') s1.fr tm (μ1 ++ [s1.lam]) b → Touch G w s.fr tm (μ ++ [s.lam]) b ∨ ∃ cs' k, o' = .cells cs' ∧ CellOwns cs' cur' k b) ∧
    (∀ l b, OwnsAt G (w.setRow (G.β lev i) cur') s1.fr tm (μ1 ++ [s1.lam]) l b → OwnsAt G w s.fr tm (μ ++ [s.lam]) l b ∨ ∃ cs' k, o' = .cells cs' ∧ CellOwns cs' cur' k b ∧ l = .ob lev i k) ∧
    (∀ k b, OwnsAt G (w.setRow (G.β lev i) cur') s1.fr tm (μ1 ++ [s1.lam]) (.ob lev i k) b → ∃ cs', o' = .cells cs' ∧ CellOwns cs' cur' k b) ∧
    (∀ l j, isLive (obAt (μ1 ++ [s1.lam]) l j) → isLive (obAt (μ ++ [s.lam]) l j)) := by
  have hO : G.O (G.β lev i) = 0 := by
    rcases live_cases R.lev hl with ⟨h1, h2⟩ | ⟨rfl, h1, h2⟩
    · have := R.mu lev i h1
      rw [← h2] at this
      revert this hl
      cases obAt (μ ++ [s.lam]) lev i with
      | dead => intro h; exact h.elim
      | cells cs => intro _ h; simp only [ObR] at h; obtain ⟨_, _, _, _, _, h, _⟩ := h; exact h
      | arr k cs => intro _ h; simp only [ObR] at h; obtain ⟨_, _, _, _, _, _, h, _⟩ := h; exact h
      | map ks vs => intro _ h; simp only [ObR] at h; obtain ⟨_, _, _, h, _⟩ := h; exact h
    · have := R.lam i
      rw [← h2] at this
      revert this hl
      cases obAt (μ ++ [s.lam]) lev i with
      | dead => intro h; exact h.elim
      | cells cs => intro _ h; simp only [ObR] at h; obtain ⟨_, _, _, _, _, h, _⟩ := h; exact h
      | arr k cs => intro _ h; simp only [ObR] at h; obtain ⟨_, _, _, _, _, _, h, _⟩ := h; exact h
      | map ks vs => intro _ h; simp only [ObR] at h; obtain ⟨_, _, _, h, _⟩ := h; exact h
  have hle := Le_setRow (G := G) hb hO hs
  have hset := muOb_set (o := o') hl
  have hAt : ∀ l j, obAt (μ1 ++ [s1.lam]) l j = if l = lev ∧ j = i then o' else obAt (μ ++ [s.lam]) l j := fun l j => by rw [obAt, hH]; exact hset l j
  have hlvl : lev ≤ L := by rcases live_cases R.lev hl with ⟨h1, _⟩ | ⟨h1, _⟩ <;> omega
  have hblk : ∀ b, b ≠ G.β lev i → (w.setRow (G.β lev i) cur').heap[b]? = w.heap[b]? := fun b h => setRow_other w _ b cur' h
  have hlive : ∀ l j, isLive (obAt (μ1 ++ [s1.lam]) l j) → isLive (obAt (μ ++ [s.lam]) l j) := by
    intro l j h
    rw [hAt] at h
    split at h
    · rename_i e; rw [e.1, e.2]; exact hl
    · exact h
  have hne : ∀ l j, isLive (obAt (μ ++ [s.lam]) l j) → ¬ (l = lev ∧ j = i) → G.β l j ≠ G.β lev i := fun l j h hn e => hn (R.inj l j lev i h hl e)
  have hownAt : ∀ l b, OwnsAt G (w.setRow (G.β lev i) cur') s1.fr tm (μ1 ++ [s1.lam]) l b → (OwnsAt G w s.fr tm (μ ++ [s.lam]) l b) ∨
      ∃ cs' k, o' = .cells cs' ∧ CellOwns cs' cur' k b ∧ l = .ob lev i k ∧ ((∀ l, ¬ OwnsAt G w s.fr tm (μ ++ [s.lam]) l b) ∧ (∀ lev i, isLive (obAt (μ ++ [s.lam]) lev i) → G.β lev i ≠ b) ∧ ∀ k', CellOwns cs' cur' k' b → k' = k) := by
    intro l b h
    cases l with
    | fr t => rw [hfr] at h; exact .inl h
    | ob l j k =>
      simp only [OwnsAt] at h
      split at h <;> try (exact h.elim)
      rename_i cs hcs
      split at h <;> try (exact h.elim)
      rename_i x hx
      obtain ⟨cur2, e2, fz2, hb2, ho⟩ := h
      rw [hAt] at hcs
      split at hcs
      · rename_i e
        obtain ⟨rfl, rfl⟩ := e
        rw [setRow_heap w _ cur cur' e fz hb] at hb2
        obtain ⟨rfl, _⟩ := (Obj.cells.injEq ..).mp (Option.some.inj hb2)
        rcases hown cs k b hcs ⟨x, hx, ho⟩ with h | h
        · exact .inl h
        · exact .inr ⟨cs, k, hcs, ⟨x, hx, ho⟩, rfl, h⟩
      · rename_i e
        have hl2 : isLive (obAt (μ ++ [s.lam]) l j) := by rw [hcs]; trivial
        rw [hblk _ (hne l j hl2 e)] at hb2
        left
        simp only [OwnsAt, hcs, hx]
        exact ⟨cur2, e2, fz2, hb2, ho⟩
  have hownBlk : ∀ l b, OwnsAt G w s.fr tm (μ ++ [s.lam]) l b → (w.setRow (G.β lev i) cur').heap[b]? = w.heap[b]? ∧ G.O b = G.O b := fun l b h => ⟨hblk b fun e => R.apart l b lev i h hl e.symm, rfl⟩
  refine ⟨⟨by rw [hμlen]; exact R.lev, fun t => ?_, fun j => ?_, fun l j hlt => ?_, fun l j l' j' h h' e' => R.inj l j l' j' (hlive l j h) (hlive l' j' h') e', fun l l' b h h' => ?_, fun l b l' j h h' e' => ?_, fun l hlt => ?_, ?_, R.ngt⟩, hle, fun b hb => ?_, fun l b h => (hownAt l b h).imp id fun ⟨cs, k, h1, h2, h3, _⟩ => ⟨cs, k, h1, h2, h3⟩, fun k b h => ?_, hlive⟩
  · rw [hfr, hlen]
    exact LVR_mono hle (Nat.le_refl _) (fun _ _ => ⟨rfl, rfl⟩) _ _ (fun b hb => hownBlk (.fr t) b hb) (R.fr t)
  · rw [hlen]
    have e1 : obAt (μ1 ++ [s1.lam]) L j = lamOb s1.lam j := by rw [← R.lev, ← hμlen]; exact muOb_eq
    have e2 : obAt (μ ++ [s.lam]) L j = lamOb s.lam j := by rw [← R.lev]; exact muOb_eq
    rw [← e1, hAt]
    split
    · rename_i e
      obtain ⟨rfl, rfl⟩ := e
      exact (hob G _ hle rfl rfl).1 rfl
    · rename_i e
      rw [e2]
      refine ObR_mono hle (Nat.le_refl _) (fun _ _ => ⟨rfl, rfl⟩) (fun h => ⟨hblk _ (hne L j (by rw [e2]; exact h) e), rfl⟩) (fun cs k x cur e fz ho hx hb b' hb' => hownBlk (.ob L j k) b' ?_) (R.lam j)
      simp only [OwnsAt, e2, ho, hx]
      exact ⟨cur, e, fz, hb, hb'⟩
  · have e1 : obAt (μ1 ++ [s1.lam]) l j = muOb μ1 l j := muOb_lt (by rw [hμlen, R.lev]; exact hlt)
    have e2 : obAt (μ ++ [s.lam]) l j = muOb μ l j := muOb_lt (by rw [R.lev]; exact hlt)
    rw [← e1, hAt]
    split
    · rename_i e
      obtain ⟨rfl, rfl⟩ := e
      exact (hob G _ hle rfl rfl).2 hlt
    · rename_i e
      rw [e2]
      refine ObR_mono (hle.below l) (Nat.le_refl _) (fun _ h => by omega) (fun h => ⟨hblk _ (hne l j (by rw [e2]; exact h) e), rfl⟩) (fun cs k x cur e fz ho hx hb b' hb' => hownBlk (.ob l j k) b' ?_) (R.mu l j hlt)
      simp only [OwnsAt, e2, ho, hx]
      exact ⟨cur, e, fz, hb, hb'⟩
  · rcases hownAt l b h with h1 | ⟨cs, k, h1, h2, rfl, h3⟩ <;> rcases hownAt l' b h' with h1' | ⟨cs', k', h1', h2', rfl, h3'⟩
    · exact R.own l l' b h1 h1'
    · exact absurd h1 (h3'.1 l)
    · exact absurd h1' (h3.1 l')
    · rw [h1] at h1'
      injection h1' with h1'
      subst h1'
      rw [h3.2.2 k' h2']
  · rcases hownAt l b h with h1 | ⟨cs, k, h1, h2, rfl, h3⟩
    · exact R.apart l b l' j h1 (hlive l' j h') e'
    · exact h3.2.1 l' j (hlive l' j h') e'
  · have h1 : (μ1.getD l []).length = (μ.getD l []).length := by
      have := (muSet_len (H := μ ++ [s.lam]) (lev := lev) (i := i) (o := o')).2 l
      rw [← hH] at this
      have a1 : l < μ1.length := by rw [hμlen, R.lev]; exact hlt
      have a2 : l < μ.length := by rw [R.lev]; exact hlt
      simp only [List.getD_eq_getElem?_getD, List.getElem?_append_left a1, List.getElem?_append_left a2] at this ⊢
      exact this
    rw [h1]; exact R.nlt l hlt
  · rw [hp, hlen]; exact R.nL
  · rcases hb with ⟨l, hb⟩ | ⟨l, j, h, rfl⟩
    · rcases hownAt l b hb with h1 | ⟨cs, k, h1, h2, _⟩
      · exact .inl (.inl ⟨l, h1⟩)
      · exact .inr ⟨cs, k, h1, h2⟩
    · exact .inl (.inr ⟨l, j, hlive l j h, rfl⟩)
  · simp only [OwnsAt] at h
    split at h <;> try (exact h.elim)
    rename_i cs hcs
    split at h <;> try (exact h.elim)
    rename_i x hx
    obtain ⟨cur2, e2, fz2, hb2, ho⟩ := h
    rw [hAt, if_pos ⟨rfl, rfl⟩] at hcs
    rw [setRow_heap w _ cur cur' e fz hb] at hb2
    obtain ⟨rfl, _⟩ := (Obj.cells.injEq ..).mp (Option.some.inj hb2)
    exact ⟨cs, hcs, x, hx, ho⟩
theorem ob_heap {s : S} {μ : Mu} {tm : Array Value} (R : Rel G L s μ tm w) {lev i : Nat} {cs : List LV} (h : obAt (μ ++ [s.lam]) lev i = .cells cs) :
    ∃ cur e fz, w.heap[G.β lev i]? = some (.cells cur e fz) ∧ Unfrozen cur fz ∧ cs.length ≤ cur.size ∧
      ((lev = L ∧ i < s.lam.length ∧ lamOb s.lam i = .cells cs ∧ ∀ j x, cs[j]? = some x → LVR G w L s.lam.length x (cur.getD j undef)) ∨
       (lev < L ∧ muOb μ lev i = .cells cs ∧ ∀ j x, cs[j]? = some x → LVR (G.below lev) w lev 0 x (cur.getD j undef))) := by
  have hl : isLive (obAt (μ ++ [s.lam]) lev i) := by rw [h]; trivial
  rcases live_cases R.lev hl with ⟨h1, h2⟩ | ⟨rfl, h1, h2⟩
  · rw [h] at h2
    have := R.mu lev i h1
    rw [← h2] at this
    simp only [ObR] at this
    obtain ⟨cur, e, fz, a, b, _, c, d⟩ := this
    exact ⟨cur, e, fz, a, b, c, .inr ⟨h1, h2.symm, d⟩⟩
  · rw [h] at h2
    have := R.lam i
    rw [← h2] at this
    simp only [ObR] at this
    obtain ⟨cur, e, fz, a, b, _, c, d⟩ := this
    exact ⟨cur, e, fz, a, b, c, .inl ⟨rfl, h1, h2.symm, d⟩⟩
theorem Rel.takeOb {s s1 : S} {μ μ1 : Mu} {tm : Array Value} (R : Rel G L s μ tm w) {lev i off : Nat} {cs : List LV} {x : LV} (hob : obAt (μ ++ [s.lam]) lev i = .cells cs) (hx : cs[off]? = some x)
    (hfr : s1.fr = s.fr) (hp : s1.pushed = s.pushed) (hlen : s1.lam.length = s.lam.length) (hμlen : μ1.length = μ.length) (hH : μ1 ++ [s1.lam] = muSet (μ ++ [s.lam]) lev i (.cells (cs.set off (strip x)))) :
    ∃ cur e fz, w.heap[G.β lev i]? = some (.cells cur e fz) ∧ off < cur.size ∧ Rel G L s1 μ1 tm w ∧
      (∀ b, Touch G w s1.fr tm (μ1 ++ [s1.lam]) b → Touch G w s.fr tm (μ ++ [s.lam]) b) ∧
      ((lev = L ∧ LVR G w L s.lam.length x (cur.getD off undef)) ∨ (lev < L ∧ LVR (G.below lev) w lev 0 x (cur.getD off undef))) ∧
      (∀ b, Owns x (cur.getD off undef) b → (∀ l, ¬ OwnsAt G w s1.fr tm (μ1 ++ [s1.lam]) l b) ∧ (∀ l j, isLive (obAt (μ1 ++ [s1.lam]) l j) → G.β l j ≠ b) ∧ Touch G w s.fr tm (μ ++ [s.lam]) b) := by
  obtain ⟨cur, e, fz, hb, hu, hsz, hcase⟩ := ob_heap R hob
  have hoff : off < cs.length := (List.getElem?_eq_some_iff.1 hx).1
  have hl : isLive (obAt (μ ++ [s.lam]) lev i) := by rw [hob]; trivial
  have hown0 : ∀ k b, CellOwns (cs.set off (strip x)) cur k b → k ≠ off ∧ OwnsAt G w s.fr tm (μ ++ [s.lam]) (.ob lev i k) b := by
    intro k b ⟨y, hy, ho⟩
    by_cases hk : k = off
    · subst hk
      rw [List.getElem?_set_self hoff] at hy
      simp only [Option.some.injEq] at hy
      subst hy
      exact absurd ho Owns_strip
    · rw [List.getElem?_set_ne (by omega)] at hy
      refine ⟨hk, ?_⟩
      simp only [OwnsAt, hob, hy]
      exact ⟨cur, e, fz, hb, ho⟩
  obtain ⟨R1, _, hT, hO1, hO2, hlv⟩ := R.setOb (s1 := s1) (μ1 := μ1) (o' := .cells (cs.set off (strip x))) hl hb (cur' := cur) rfl hfr hp hlen hμlen hH
    (fun G' w' hle hG hw => by
      subst hG
      rw [setRow_self w _ cur e fz hb] at hw
      subst hw
      refine ⟨fun hL => ?_, fun hL => ?_⟩
      · rcases hcase with ⟨_, _, h2, h3⟩ | ⟨h1, _⟩
        · have := R.lam i
          rw [h2] at this
          simp only [ObR] at this ⊢
          obtain ⟨cur', e', fz', hb', hu', hO', hs', hr'⟩ := this
          rw [hL]
          refine ⟨cur', e', fz', hb', hu', hO', by simpa using hs', fun j y hy => ?_⟩
          by_cases hj : j = off
          · subst hj
            rw [List.getElem?_set_self hoff] at hy
            simp only [Option.some.injEq] at hy
            subst hy
            exact LVR_strip (hr' j x hx)
          · rw [List.getElem?_set_ne (by omega)] at hy
            exact hr' j y hy
        · omega
      · rcases hcase with ⟨h1, _⟩ | ⟨_, h2, h3⟩
        · omega
        · have := R.mu lev i hL
          rw [h2] at this
          simp only [ObR] at this ⊢
          obtain ⟨cur', e', fz', hb', hu', hO', hs', hr'⟩ := this
          refine ⟨cur', e', fz', hb', hu', hO', by simpa using hs', fun j y hy => ?_⟩
          by_cases hj : j = off
          · subst hj
            rw [List.getElem?_set_self hoff] at hy
            simp only [Option.some.injEq] at hy
            subst hy
            exact LVR_strip (hr' j x hx)
          · rw [List.getElem?_set_ne (by omega)] at hy
            exact hr' j y hy)
    (fun cs' k b he ho => by
      injection he with he
      subst he
      exact .inl (hown0 k b ho).2)
  rw [setRow_self w _ cur e fz hb] at R1 hT hO1 hO2
  refine ⟨cur, e, fz, hb, by omega, R1, fun b hb => ?_, ?_, fun b ho => ?_⟩
  · rcases hT b hb with h | ⟨cs', k, he, ho⟩
    · exact h
    · injection he with he
      subst he
      exact .inl ⟨_, (hown0 k b ho).2⟩
  · rcases hcase with ⟨h1, _, _, h3⟩ | ⟨h1, _, h3⟩
    · exact .inl ⟨h1, h3 off x hx⟩
    · exact .inr ⟨h1, h3 off x hx⟩
  · have hown : OwnsAt G w s.fr tm (μ ++ [s.lam]) (.ob lev i off) b := by
      simp only [OwnsAt, hob, hx]
      exact ⟨cur, e, fz, hb, ho⟩
    refine ⟨fun l h => ?_, fun l j h => R.apart _ b l j hown (hlv l j h), .inl ⟨_, hown⟩⟩
    have hold : OwnsAt G w s.fr tm (μ ++ [s.lam]) l b := by
      rcases hO1 l b h with h | ⟨cs', k, he, ho', rfl⟩
      · exact h
      · injection he with he
        subst he
        exact (hown0 k b ho').2
    have hl := R.own l _ b hold hown
    subst hl
    obtain ⟨cs', he, ho'⟩ := hO2 off b h
    injection he with he
    subst he
    exact (hown0 off b ho').1 rfl
end
end Go.Abs

set_option linter.unusedVariables false
set_option linter.unusedSimpArgs false
namespace Go.Abs
open Go
section
variable {G : Gh} {w : World} {L : Nat} {P : Program}
theorem toCVs_get : ∀ {cs : List LV} {l : List CV}, toCVs cs = some l → l.length = cs.length ∧ ∀ (j : Nat) c, l[j]? = some c → ∃ x, cs[j]? = some x ∧ getCv x = some c
 | [], l, h => by simp only [toCVs, Option.some.injEq] at h; subst h; exact ⟨rfl, fun j c hc => by simp at hc⟩
 | x :: r, l, h => by
  simp only [toCVs] at h
  obtain ⟨c, h1, h2⟩ := opt_some.1 h
  obtain ⟨l', h3, h4⟩ := opt_some.1 h2
  simp only [Option.some.injEq] at h4
  subst h4
  obtain ⟨e, hg⟩ := toCVs_get h3
  refine ⟨by simp [e], fun j c' hc => ?_⟩
  cases j with
  | zero => simp only [List.getElem?_cons_zero, Option.some.injEq] at hc; subst hc; exact ⟨x, rfl, h1⟩
  | succ j => simpa using hg j c' (by simpa using hc)
theorem CL_of {b : Nat} : ∀ {cs : List CV} {off : Nat}, (∀ (j : Nat) c, cs[j]? = some c → ∃ v, w.cell? ⟨b, off + j, none⟩ = some v ∧ off + j < G.O b ∧ VR G w c v) → CL G w b off cs
 | [], off, _ => by simp [CL]
 | c :: r, off, h => by
  simp only [CL]
  refine ⟨by simpa using h 0 c rfl, CL_of fun j c' hc => ?_⟩
  have := h (j + 1) c' (by simpa using hc)
  rwa [show off + (j + 1) = off + 1 + j by omega] at this
theorem lamOb_set {l : Lam} {i : Nat} {o : Ob} (h : i < l.length) (j : Nat) : lamOb (l.set i o) j = if j = i then o else lamOb l j := by
 simp only [lamOb]
 by_cases e : j = i
 ·subst e; rw [List.getElem?_set_self h]; simp
 ·rw [List.getElem?_set_ne (by omega)]; simp [e]
theorem cell_of_heap {b j : Nat} {cur : Array Value} {e : TypeId} {fz : Nat × Nat} (h : w.heap[b]? = some (.cells cur e fz)) (hj : j < cur.size) : w.cell? ⟨b, j, none⟩ = some (cur.getD j undef) := by
 rw [cell_of_row w b j cur e fz h]
 simp [Array.getD, hj]
theorem Rel.freezeOb {s : S} {μ : Mu} {tm : Array Value} (R : Rel G L s μ tm w) {i t n : Nat} {x : LV} (hl : isLive (lamOb s.lam i))
  (hx : Le G w (G.setO (G.β L i) n) w → LVR (G.setO (G.β L i) n) w L s.lam.length x (tm.getD t undef)) (hno : ∀ b, ¬ Owns x (tm.getD t undef) b) :
  let G' := G.setO (G.β L i) n
  let s' : S := { s with fr := upd s.fr t x, lam := s.lam.set i .dead }
  Rel G' L s' μ tm w ∧ Ext L (TouchS G w s μ tm) G w G' w (TouchS G' w s' μ tm) := by
 intro G' s'
 have hi := lamOb_lt hl
 have e0 : ∀ j, obAt (μ ++ [s.lam]) L j = lamOb s.lam j := fun j => by rw [← R.lev]; exact muOb_eq
 have e1 : ∀ j, obAt (μ ++ [s'.lam]) L j = lamOb s'.lam j := fun j => by rw [← R.lev]; exact muOb_eq
 have hl' : isLive (obAt (μ ++ [s.lam]) L i) := by rw [e0]; exact hl
 have hOb : G.O (G.β L i) = 0 := by
  have := R.lam i
  revert this hl
  cases lamOb s.lam i with
  | dead => intro h; exact h.elim
  | cells cs => intro _ h; simp only [ObR] at h; obtain ⟨_, _, _, _, _, h, _⟩ := h; exact h
  | arr k cs => intro _ h; simp only [ObR] at h; obtain ⟨_, _, _, _, _, _, h, _⟩ := h; exact h
  | map ks vs => intro _ h; simp only [ObR] at h; obtain ⟨_, _, _, h, _⟩ := h; exact h
 have hle : Le G w G' w := by
  refine ⟨fun b es clk h hb => ⟨?_, hb⟩, fun _ _ h => ⟨h, rfl, rfl⟩, fun b off v h hc => ⟨?_, hc⟩, fun b cur e fz h => ⟨cur, fz, h, rfl⟩⟩
  ·by_cases hbb : b = G.β L i
   ·subst hbb; omega
   ·rw [setO_other hbb]; exact h
  by_cases hbb : b = G.β L i
  ·subst hbb; omega
  ·rw [setO_other hbb]; exact h
 have hset : ∀ j, lamOb s'.lam j = if j = i then .dead else lamOb s.lam j := fun j => lamOb_set hi j
 have hlen : s'.lam.length = s.lam.length := by simp [s']
 have hlive : ∀ l j, isLive (obAt (μ ++ [s'.lam]) l j) → isLive (obAt (μ ++ [s.lam]) l j) ∧ obAt (μ ++ [s'.lam]) l j = obAt (μ ++ [s.lam]) l j ∧ ¬ (l = L ∧ j = i) := by
  intro l j h
  rcases live_cases (s := s') R.lev h with ⟨h1, h2⟩ | ⟨rfl, h1, h2⟩
  ·have : obAt (μ ++ [s.lam]) l j = muOb μ l j := muOb_lt (by rw [R.lev]; exact h1)
   rw [h2] at h ⊢
   exact ⟨by rw [this]; exact h, this.symm, by omega⟩
  ·rw [h2, hset] at h
   rw [h2, hset, e0]
   split at h
   ·exact h.elim
   ·rename_i hj
    rw [if_neg hj]
    exact ⟨h, rfl, by simpa using hj⟩
 have hO : ∀ l j, isLive (obAt (μ ++ [s.lam]) l j) → ¬ (l = L ∧ j = i) → G'.O (G.β l j) = G.O (G.β l j) := fun l j h hn => setO_other fun e => hn (R.inj l j L i h hl' e)
 have hOo : ∀ l b, OwnsAt G w s.fr tm (μ ++ [s.lam]) l b → G'.O b = G.O b := fun l b h => setO_other fun e => R.apart l b L i h hl' e.symm
 have hownAt : ∀ l b, OwnsAt G' w s'.fr tm (μ ++ [s'.lam]) l b → OwnsAt G w s.fr tm (μ ++ [s.lam]) l b := by
  intro l b h
  cases l with
  | fr u =>
   simp only [OwnsAt, s'] at h ⊢
   by_cases hu : u = t
   ·subst hu; rw [upd_same] at h; exact absurd h (hno b)
   ·rw [upd_other _ _ hu] at h; exact h
  | ob l j k =>
   simp only [OwnsAt] at h ⊢
   split at h <;> try (exact h.elim)
   rename_i cs hcs
   obtain ⟨_, h2, _⟩ := hlive l j (by rw [hcs]; trivial)
   rw [← h2, hcs]
   exact h
 refine ⟨⟨R.lev, fun u => ?_, fun j => ?_, fun l j hlt => ?_, fun l j l' j' h h' e' => R.inj l j l' j' (hlive l j h).1 (hlive l' j' h').1 e', fun l l' b h h' => R.own l l' b (hownAt l b h) (hownAt l' b h'), fun l b l' j h h' e' => R.apart l b l' j (hownAt l b h) (hlive l' j h').1 e', R.nlt, ?_, R.ngt⟩, ?_⟩
 ·rw [hlen]
  by_cases hu : u = t
  ·subst hu
   simp only [s', upd_same]
   exact hx hle
  ·simp only [s', upd_other _ _ hu]
   exact LVR_mono hle (Nat.le_refl _) (fun _ _ => ⟨rfl, rfl⟩) _ _ (fun b hb => ⟨rfl, hOo (.fr u) b hb⟩) (R.fr u)
 ·rw [hlen, hset]
  split
  ·trivial
  ·rename_i hj
   refine ObR_mono hle (Nat.le_refl _) (fun _ _ => ⟨rfl, rfl⟩) (fun h => ⟨rfl, hO L j (by rw [e0]; exact h) (by simpa using hj)⟩) (fun cs k x cur e fz ho hx hb b' hb' => ⟨rfl, hOo (.ob L j k) b' ?_⟩) (R.lam j)
   simp only [OwnsAt, e0, ho, hx]
   exact ⟨cur, e, fz, hb, hb'⟩
 ·have e2 : obAt (μ ++ [s.lam]) l j = muOb μ l j := muOb_lt (by rw [R.lev]; exact hlt)
  refine ObR_mono (hle.below l) (Nat.le_refl _) (fun _ h => by omega) (fun h => ⟨rfl, hO l j (by rw [e2]; exact h) (by omega)⟩) (fun cs k x cur e fz ho hx hb b' hb' => ⟨rfl, hOo (.ob l j k) b' ?_⟩) (R.mu l j hlt)
  simp only [OwnsAt, e2, ho, hx]
  exact ⟨cur, e, fz, hb, hb'⟩
 ·rw [hlen]; exact R.nL
 ·refine ⟨hle, rfl, rfl, rfl, Nat.le_refl _, fun b hb hn => ⟨rfl, setO_other fun e => hn (.inr ⟨L, i, hl', e.symm⟩)⟩, fun b hb => .inl ?_, fun _ _ => ⟨fun _ => ⟨rfl, rfl⟩, rfl⟩⟩
  rcases hb with ⟨l, hb⟩ | ⟨l, j, h, rfl⟩
  ·exact .inl ⟨l, hownAt l b hb⟩
  ·exact .inr ⟨l, j, (hlive l j h).1, rfl⟩
theorem freezeA_sound {t : Nat} {s s' : S} {μ : Mu} {tm : Array Value} (h : freezeA t s = some s') (R : Rel G L s μ tm w) :
  ∃ G', Rel G' L s' μ tm w ∧ Ext L (TouchS G w s μ tm) G w G' w (TouchS G' w s' μ tm) := by
 unfold freezeA at h
 split at h
 rotate_left
 ·rename_i i hfr
  split at h <;> try (simp at h; done)
  rename_i ks vs hob'
  simp only [Option.some.injEq] at h
  subst h
  have hob := R.lam i
  rw [hob'] at hob
  simp only [ObR] at hob
  obtain ⟨es, clk, hb, hO, hk, hr⟩ := hob
  have hv := R.fr t
  rw [hfr] at hv
  simp only [LVR] at hv
  refine ⟨_, R.freezeOb (n := 1) (by rw [hob']; trivial) (fun hle => ?_) (fun b hb => by simp [Owns] at hb)⟩
  rw [hv.2]
  simp only [LVR, VR]
  exact ⟨_, es, clk, rfl, hb, by rw [setO_same]; omega, hk, VRL_mono hle vs _ hr⟩
 ·simp at h
 rename_i i off hfr
 split at h <;> try (simp at h; done)
 rename_i h0
 simp only [decide_eq_true_eq] at h0
 subst h0
 split at h <;> try (simp at h; done)
 rename_i cs hcs
 obtain ⟨l, hl, h⟩ := opt_some.1 h
 simp only [Option.some.injEq] at h
 subst h
 have hob := R.lam i
 rw [hcs] at hob
 simp only [ObR] at hob
 obtain ⟨cur, e, fz, hb, hu, hO, hsz, hr⟩ := hob
 have hv := R.fr t
 rw [hfr] at hv
 simp only [LVR] at hv
 obtain ⟨e1, hg⟩ := toCVs_get hl
 refine ⟨_, R.freezeOb (n := cur.size) (by rw [hcs]; trivial) (fun hle => ?_) (fun b hb => by simp [Owns] at hb)⟩
 rw [hv.2]
 simp only [LVR, VR]
 refine ⟨_, _, rfl, CL_of fun j c hc => ?_⟩
 obtain ⟨x, hx, hgc⟩ := hg j c hc
 have hj : j < cur.size := by
  have := (List.getElem?_eq_some_iff.1 hx).1
  omega
 refine ⟨cur.getD j undef, ?_, ?_, VR_mono hle c _ (getCv_rel hgc (hr j x hx))⟩
 ·rw [Nat.zero_add]; exact cell_of_heap hb hj
 ·rw [setO_same]; omega
theorem freezes_sound : ∀ {ts : List Nat} {s s' : S} {μ : Mu} {tm : Array Value} {G : Gh}, freezes ts s = some s' → Rel G L s μ tm w →
  ∃ G', Rel G' L s' μ tm w ∧ Ext L (TouchS G w s μ tm) G w G' w (TouchS G' w s' μ tm)
 | [], s, s', μ, tm, G, h, R => by
  simp only [freezes, Option.some.injEq] at h
  subst h
  exact ⟨G, R, Ext.refl G w fun _ h => h⟩
 | t :: r, s, s', μ, tm, G, h, R => by
  simp only [freezes] at h
  obtain ⟨s1, h1, h2⟩ := opt_some.1 h
  obtain ⟨G1, R1, E1⟩ := freezeA_sound h1 R
  obtain ⟨G2, R2, E2⟩ := freezes_sound h2 R1
  exact ⟨G2, R2, E1.trans E2⟩
theorem chunks_len {isA : Bool} {sz : Nat} : ∀ (n : Nat) (cs : List CV), (chunks isA sz n cs).length = n
 | 0, cs => rfl
 | n + 1, cs => by simp [chunks, chunks_len n]
theorem solids_drop : ∀ (n : Nat) {cs : List CV}, solids cs = true → solids (cs.drop n) = true
 | 0, cs, h => h
 | n + 1, [], h => rfl
 | n + 1, c :: r, h => by
  simp only [solids] at h
  split at h <;> try (simp at h; done)
  simpa using solids_drop n h
theorem chunks_EL {isA : Bool} {sz b : Nat} : ∀ (n off : Nat) (cs : List CV), (isA = true ∨ (sz = 1 ∧ solids cs = true)) → n * sz ≤ cs.length → CL G w b off cs →
  (∀ x ∈ chunks isA sz n cs, x.cells.length = sz) ∧ EL G w b sz off (chunks isA sz n cs)
 | 0, off, cs, _, _, _ => by simp [chunks, EL]
 | n + 1, off, cs, hz, hl, h => by
  have hl' : n * sz + sz ≤ cs.length := by rw [Nat.add_mul] at hl; omega
  obtain ⟨h1, h2⟩ := chunks_EL n (off + sz) (cs.drop sz) (hz.imp id fun hz => ⟨hz.1, solids_drop sz hz.2⟩) (by simp only [List.length_drop]; omega) (CL_drop sz h)
  cases isA with
  | true =>
   simp only [chunks, List.mem_cons, forall_eq_or_imp, EL]
   refine ⟨⟨?_, h1⟩, CL_take sz h, h2⟩
   simp only [CV.cells, List.length_take]; omega
  | false =>
   obtain ⟨hz1, hs⟩ : sz = 1 ∧ solids cs = true := by rcases hz with hz | hz <;> simp_all
   subst hz1
   cases cs with
   | nil => simp at hl'
   | cons c r =>
    simp only [chunks, List.headD_cons, List.mem_cons, forall_eq_or_imp]
    simp only [solids] at hs
    split at hs <;> try (simp at hs; done)
    rename_i hs1
    simp only [CL] at h
    cases c <;> simp only [solid1, Bool.false_eq_true] at hs1 <;> simp only [EL] <;> exact ⟨⟨rfl, h1⟩, h.1, h2⟩
theorem freezeArr_sound {t : Nat} {e : TypeId} {s s' : S} {μ : Mu} {tm : Array Value} (h : freezeArr P t e s = some s') (R : Rel G L s μ tm w) :
  ∃ G', Rel G' L s' μ tm w ∧ Ext L (TouchS G w s μ tm) G w G' w (TouchS G' w s' μ tm) := by
 unfold freezeArr at h
 split at h <;> try (simp at h; done)
 rename_i i off len hfr
 split at h <;> try (simp at h; done)
 rename_i h0
 simp only [decide_eq_true_eq] at h0
 subst h0
 split at h <;> try (simp at h; done)
 rename_i sz cs hcs
 obtain ⟨n, hn, h⟩ := opt_some.1 h
 obtain ⟨hsz, h⟩ := guardB_some.1 h
 obtain ⟨hg, h⟩ := guardB_some.1 h
 simp only [Option.some.injEq] at h
 subst h
 have hsz := Nat.eq_of_beq_eq_true hsz
 subst hsz
 simp only [Bool.and_eq_true, Bool.or_eq_true] at hg
 obtain ⟨hg1, hg2⟩ := hg
 have hg2 := Nat.le_of_ble_eq_true hg2
 have hob := R.lam i
 rw [hcs] at hob
 simp only [ObR] at hob
 obtain ⟨hk, cur, e', fz, hb, hu, hO, hle, hr⟩ := hob
 have hv := R.fr t
 rw [hfr] at hv
 simp only [LVR] at hv
 obtain ⟨hi, cap, cur2, e2, fz2, hv1, hv2, hv3, hv4, hv5⟩ := hv
 refine ⟨_, R.freezeOb (n := cur.size) (by rw [hcs]; trivial) (fun hle' => ?_) (fun b hb => by simp [Owns] at hb)⟩
 rw [hv1]
 simp only [LVR, VR]
 have hcl : CL (G.setO (G.β L i) cur.size) w (G.β L i) 0 cs := CL_of fun j c hc => by
  have hj : j < cur.size := by
   have := (List.getElem?_eq_some_iff.1 hc).1
   omega
  exact ⟨cur.getD j undef, by rw [Nat.zero_add]; exact cell_of_heap hb hj, by rw [setO_same]; omega, VR_mono hle' c _ (hr j c hc)⟩
 obtain ⟨k1, k2⟩ := chunks_EL (isA := isAggT P e) (sz := sz) len 0 cs (by
  rcases hg1 with h | ⟨h1, h2⟩
  ·exact .inl h
  ·exact .inr ⟨Nat.eq_of_beq_eq_true h1, h2⟩) hg2 hcl
 exact ⟨_, len, cap, rfl, (chunks_len len cs).symm, hv2, .inr ⟨G.β L i, 0, sz, rfl, k1, k2⟩⟩
theorem freezeArrs_sound : ∀ {ts : List (Nat × TypeId)} {s s' : S} {μ : Mu} {tm : Array Value} {G : Gh}, freezeArrs P ts s = some s' → Rel G L s μ tm w →
  ∃ G', Rel G' L s' μ tm w ∧ Ext L (TouchS G w s μ tm) G w G' w (TouchS G' w s' μ tm)
 | [], s, s', μ, tm, G, h, R => by
  simp only [freezeArrs, Option.some.injEq] at h
  subst h
  exact ⟨G, R, Ext.refl G w fun _ h => h⟩
 | t :: r, s, s', μ, tm, G, h, R => by
  simp only [freezeArrs] at h
  obtain ⟨s1, h1, h2⟩ := opt_some.1 h
  obtain ⟨G1, R1, E1⟩ := freezeArr_sound h1 R
  obtain ⟨G2, R2, E2⟩ := freezeArrs_sound h2 R1
  exact ⟨G2, R2, E1.trans E2⟩
end
end Go.Abs

set_option linter.unusedVariables false
set_option linter.unusedSimpArgs false
namespace Go.Abs
open Go
def KOK {α : Type} (L : Nat) (G : Gh) (w : World) (s : S) (μ : Mu) (a : Act) (dst : Option Tmp) (k : LV → S → Mu → Option α) (r : α) (K : Act → World → Prop) : Prop :=
 ∀ v s' μ' cv w' G', k v s' μ' = some r → Rel G' L (s'.put dst v) μ' (a.put dst cv).tmps w' →
  Ext L (TouchS G w s μ a.tmps) G w G' w' (TouchS G' w' (s'.put dst v) μ' (a.put dst cv).tmps) → K (a.put dst cv) w'
def POK {α : Type} (L : Nat) (G : Gh) (w : World) (s : S) (μ : Mu) (a : Act) (p : CV → S → Mu → Option α) (r : α) (Q : Exit → Act → World → Prop) : Prop :=
 ∀ v s' μ' pv w' G', p v s' μ' = some r → Rel G' L s' μ' a.tmps w' → VR G' w' v pv →
  Ext L (TouchS G w s μ a.tmps) G w G' w' (TouchS G' w' s' μ' a.tmps) → Q (.panic [{ v := pv, recovered := false }]) a w'
section
variable {P : Program} {α : Type} {L : Nat} {G : Gh} {w : World} {s : S} {μ : Mu} {a : Act} {o : Oper} {k : LV → S → Mu → Option α} {p : CV → S → Mu → Option α} {r : α} {K : Act → World → Prop} {Q : Exit → Act → World → Prop}
theorem wp_of_value {cv : Value} {w' : World} (h : (execOp a.eval o).run P w = .ok (.value cv) w') (hK : K (a.put o.dst cv) w') : o.wp P a w K Q := by
 unfold Oper.wp; rw [h]; exact hK
theorem wp_of_skip {w' : World} (h : (execOp a.eval o).run P w = .ok .skip w') (hK : K (a.put o.dst undef) w') : o.wp P a w K Q := by
 unfold Oper.wp; rw [h]; exact hK
theorem wp_of_panic {v : Value} {w' : World} (h : (execOp a.eval o).run P w = .halt (.panic v) w') (hQ : Q (.panic [{ v, recovered := false }]) a w') : o.wp P a w K Q := by
 unfold Oper.wp; rw [h]; exact hQ
theorem pure_case (R : Rel G L s μ a.tmps w) (hd : ∀ d, o.dst = some d → d < a.tmps.size) (hk : KOK L G w s μ a o.dst k r K) {ts : List Nat} {v : LV} {cv : Value}
  (h : k v (stripSlots ts s) μ = some r) (hrun : (execOp a.eval o).run P w = .ok (.value cv) w) (hv : LVR G w L s.lam.length v cv)
  (ho : ∀ b, Owns v cv b → ∃ t, t ∈ ts ∧ Owns (s.fr t) (a.tmps.getD t undef) b) : o.wp P a w K Q := by
 obtain ⟨h1, h2⟩ := step_pure (dst := o.dst) R hv ho hd
 exact wp_of_value hrun (hk v _ μ cv w G h h1 h2)
theorem cv_case (R : Rel G L s μ a.tmps w) (hd : ∀ d, o.dst = some d → d < a.tmps.size) (hk : KOK L G w s μ a o.dst k r K) {ts : List Nat} {c : CV}
  (h : k (.cv c) (stripSlots ts s) μ = some r) (hrun : ∃ cv, (execOp a.eval o).run P w = .ok (.value cv) w ∧ VR G w c cv) : o.wp P a w K Q := by
 obtain ⟨cv, h1, h2⟩ := hrun
 exact pure_case R hd hk h h1 (by simpa [LVR] using h2) (fun b hb => by simp [Owns] at hb)
theorem lenA_run {x : LV} {v : Value} {n : Int} {t ty : TypeId} (h : lenA P t x = some n) (hv : LVR G w L s.lam.length x v) : (Builtin.len_ #[t] ty #[v]).run P w = .ok (.int .i64 n) w := by
 unfold lenA at h
 split at h
 ·rename_i hu
  obtain ⟨l, h1, h2⟩ := opt_some.1 h
  simp only [Option.some.injEq] at h2
  rw [getStr_eq h1] at hv
  simp only [LVR, VR] at hv
  subst hv
  have e : ∀ b : ByteArray, (Builtin.len_ #[t] ty #[.string b]).run P w = .ok (goInt (b.size : Nat)) w := fun b => by simp [Builtin.len_, run_underlying hu]
  rw [e, ← h2]
  rfl
 ·rename_i e hu
  unfold lenSl at h
  have key : ∀ A m c, v = .slice A m c → (m : Int) = n → (Builtin.len_ #[t] ty #[v]).run P w = .ok (.int .i64 n) w := by
   intro A m c e em
   subst e
   simp [Builtin.len_, run_underlying hu, goInt, em]
  have key2 : ∀ xs, VR G w (.sl xs) v → (xs.length : Int) = n → (Builtin.len_ #[t] ty #[v]).run P w = .ok (.int .i64 n) w := by
   intro xs hx e
   simp only [VR] at hx
   obtain ⟨A, len, cap, e1, e2, _⟩ := hx
   exact key A len cap e1 (by rw [e2]; exact e)
  split at h <;> simp only [Option.some.injEq, reduceCtorEq] at h
  ·simp only [LVR] at hv; exact key2 _ hv h
  ·simp only [LVR, VR] at hv; exact key none 0 0 hv h
  ·simp only [LVR] at hv; exact key2 _ (Owned_sl hv) h
  ·simp only [LVR] at hv
   obtain ⟨_, cap, cur, e, fz, e1, _⟩ := hv
   exact key _ _ cap e1 h
  ·simp only [LVR, VR] at hv
   obtain ⟨_, cap, cur, e, fz, e1, _⟩ := hv
   exact key _ _ cap e1 h
 ·simp at h
theorem isNilA_nilCheck {x : LV} {v : Value} (h : isNilA x = some false) (hv : LVR G w L s.lam.length x v) (x' : Operand) (he : a.eval x' = v) (ho : o.op = .nilCheck x') :
  (execOp a.eval o).run P w = .ok (.value v) w := by
 have : ∀ u, (match u with | .pointer none | .nilIface | .nilFunc => False | .func (.method _) _ _ => False | _ => True) → a.eval x' = u → (execOp a.eval o).run P w = .ok (.value u) w := by
  intro u hu e
  simp only [execOp, ho, e]
  cases u with
  | pointer A => cases A <;> first | exact hu.elim | rfl
  | func fn f c => cases fn <;> first | exact hu.elim | rfl
  | nilIface => exact hu.elim
  | nilFunc => exact hu.elim
  | _ => rfl
 refine this v ?_ he
 unfold isNilA at h
 split at h <;> simp only [Option.some.injEq, reduceCtorEq, Bool.true_eq_false, Bool.false_eq_true] at h <;> simp only [LVR, VR] at hv
 ·obtain ⟨_, _, rfl, _⟩ := hv; trivial
 ·obtain ⟨_, rfl⟩ := hv; trivial
 ·obtain ⟨_, rfl, _⟩ := hv; trivial
 ·obtain ⟨_, rfl, _⟩ := hv; trivial
 ·obtain ⟨_, rfl⟩ := hv; trivial
 ·obtain ⟨_, rfl, _⟩ := hv; trivial
 ·obtain ⟨_, rfl, _⟩ := hv; trivial
 ·obtain ⟨_, rfl, _⟩ := hv; trivial
theorem untype_rel {nl : Nat} {x : LV} {v : Value} (hv : LVR G w L nl x v) : LVR G w L nl (untype x) v ∧ ∀ b, Owns (untype x) v b → Owns x v b := by
 cases x with
 | tloc i t n =>
  simp only [LVR, untype] at hv ⊢
  exact ⟨⟨hv.1, hv.2.1⟩, fun b hb => by simp [Owns] at hb⟩
 | cv c =>
  cases c with
  | tref lev i t n =>
   simp only [LVR, VR, untype, untypeC] at hv ⊢
   exact ⟨⟨hv.1, hv.2.1⟩, fun b hb => by simp [Owns] at hb⟩
  | _ => exact ⟨hv, fun _ hb => hb⟩
 | _ => exact ⟨hv, fun _ hb => hb⟩
end
end Go.Abs

set_option linter.unusedVariables false
set_option linter.unusedSimpArgs false
namespace Go.Abs
open Go
section
variable {P : Program} {ρ : Rho} {α : Type} {L : Nat} {G : Gh} {w : World} {s : S} {μ : Mu} {a : Act} {o : Oper} {h : OpHint} {k : LV → S → Mu → Option α} {p : CV → S → Mu → Option α} {r : α} {K : Act → World → Prop} {Q : Exit → Act → World → Prop}
theorem run_v {x : Sem Value} {v : Value} {w' : World} (h : x.run P w = .ok v w') : (do pure (Next.value (← x)) : Sem Next).run P w = .ok (.value v) w' := by
 rw [Sem.run_bind, h]; rfl
theorem eval_cv (R : Rel G L s μ a.tmps w) {x : Operand} {c : CV} (e : evA h s.fr x = .cv c) : VR G w c (a.eval x) := by
 have := (eval_rel R h x).1
 rw [e] at this
 simpa [LVR] using this
theorem eval_int (R : Rel G L s μ a.tmps w) {x : Operand} {k : IntKind} {n : Int} (e : evA h s.fr x = .cv (.v (.int k n))) : a.eval x = .int k n := by
 have := eval_cv R e
 simpa [VR] using this
theorem bound_is (R : Rel G L s μ a.tmps w) {x : Option Operand} {d : Int} {β : Type} {k : Int → Option β} {r : β} (hb : boundK (evA h s.fr) x d k = some r) :
  ∃ n, BoundIs (x.map a.eval) d n ∧ k n = some r := by
 rcases boundK_some hb with ⟨rfl, h1⟩ | ⟨o, kd, n, rfl, h1, h2⟩
 ·exact ⟨d, .inl ⟨rfl, rfl⟩, h1⟩
 ·exact ⟨n, .inr ⟨kd, by simp [eval_int R h1]⟩, h2⟩
theorem c_move {x : Operand} (ho : o.op = .move x ∨ o.op = .assign x) (R : Rel G L s μ a.tmps w) (hd : ∀ d, o.dst = some d → d < a.tmps.size) (hk : KOK L G w s μ a o.dst k r K)
  (hop : k (evA h s.fr x) (stripSlots h.take s) μ = some r) : o.wp P a w K Q :=
 pure_case R hd hk hop (by rcases ho with ho | ho <;> simp [execOp, ho]) (eval_rel R h x).1 (eval_rel R h x).2
theorem c_pick {c x y : Operand} (ho : o.op = .pick c x y) (R : Rel G L s μ a.tmps w) (hd : ∀ d, o.dst = some d → d < a.tmps.size) (hk : KOK L G w s μ a o.dst k r K)
  (hop : opt (getBool (evA h s.fr c)) (fun t => k (pickA t (evA h s.fr x) (evA h s.fr y)) (stripSlots h.take s) μ) = some r) : o.wp P a w K Q := by
 obtain ⟨t, h1, h2⟩ := opt_some.1 hop
 have hc := eval_cv R (getBool_eq h1)
 simp only [VR] at hc
 obtain ⟨hv, hw⟩ := pickA_rel (t := t) (eval_rel R h x).1 (eval_rel R h y).1
 refine pure_case R hd hk h2 (cv := if t = true then a.eval x else a.eval y) (by simp [execOp, ho, hc, asBool]) hv fun b hb => ?_
 rcases hw b hb with hb | hb
 ·exact (eval_rel R h x).2 b hb
 ·exact (eval_rel R h y).2 b hb
theorem c_build {t : TypeId} {parts : Array (Nat × Operand)} (ho : o.op = .build t parts) (R : Rel G L s μ a.tmps w) (hd : ∀ d, o.dst = some d → d < a.tmps.size) (hk : KOK L G w s μ a o.dst k r K)
  (hop : opt (partsCV (evA h s.fr) parts.toList) (fun ps => opt (buildA P t ps) fun c => k (.cv c) (stripSlots h.take s) μ) = some r) : o.wp P a w K Q := by
 obtain ⟨ps, h1, h2⟩ := opt_some.1 hop
 obtain ⟨c, h3, h4⟩ := opt_some.1 h2
 refine cv_case R hd hk h4 ?_
 have hp := partsCV_rel R h h1
 unfold buildA at h3
 obtain ⟨z, hz, h3⟩ := opt_some.1 h3
 obtain ⟨zv, i, _, _, hzr, hzl⟩ := zeroCells_run (G := G) (w := w) hz
 have hparts : (parts.map fun q => (q.1, a.eval q.2)).toList = parts.toList.map fun q => (q.1, a.eval q.2) := by simp
 split at h3
 ·rename_i fs hu
  obtain ⟨pl, hpl, h3⟩ := opt_some.1 h3
  obtain ⟨cs, hf, h3⟩ := opt_some.1 h3
  simp only [Option.some.injEq] at h3
  subst h3
  obtain ⟨b, hb, hr, _⟩ := fill_run hp hzl hf
  have hmap : ∀ (l : List Field) (pl : List (Nat × Nat)), fieldPlaces P l = some pl → (l.mapM fun f => (do pure (f.offset, ← sizeOf f.type) : Sem (Nat × Nat))).run P w = .ok pl w := by
   intro l
   induction l with
   | nil => intro pl h; simp only [fieldPlaces, Option.some.injEq] at h; subst h; simp
   | cons f l ih =>
    intro pl h
    simp only [fieldPlaces] at h
    obtain ⟨n, hn, h⟩ := opt_some.1 h
    obtain ⟨q, hq, h⟩ := opt_some.1 h
    simp only [Option.some.injEq] at h
    subst h
    simp only [List.mapM_cons, Sem.run_bind, sizeT_run hn, Result.andThen_ok, Sem.run_pure, ih q hq]
  have hm := hmap fs.toList pl hpl
  have hm2 : (fs.mapM fun f => (do pure (f.offset, ← sizeOf f.type) : Sem (Nat × Nat))).run P w = .ok pl.toArray w := by
   rw [Array.mapM_eq_mapM_toList, Sem.run_map, hm]
   rfl
  refine ⟨.agg b, ?_, by simp only [VR]; exact ⟨b, rfl, hr⟩⟩
  simp only [execOp, ho]
  refine run_v ?_
  have hpe : (fun (x : Nat) => (pl.toArray)[x]?) = fun (i : Nat) => pl[i]? := by funext i; simp
  simp only [Instr.build, Sem.run_bind, hzr, Result.andThen_ok, run_underlying hu, hm2, hparts, hpe, hb, Sem.run_pure]
 ·rename_i n e hu
  obtain ⟨sz, hsz, h3⟩ := opt_some.1 h3
  obtain ⟨cs, hf, h3⟩ := opt_some.1 h3
  simp only [Option.some.injEq] at h3
  subst h3
  obtain ⟨b, hb, hr, _⟩ := fill_run hp hzl hf
  refine ⟨.agg b, ?_, by simp only [VR]; exact ⟨b, rfl, hr⟩⟩
  simp only [execOp, ho]
  refine run_v ?_
  simp only [Instr.build, Sem.run_bind, hzr, Result.andThen_ok, run_underlying hu, sizeT_run hsz, hparts, hb, Sem.run_pure]
 ·simp at h3
theorem c_nilCheck {x : Operand} (ho : o.op = .nilCheck x) (R : Rel G L s μ a.tmps w) (hd : ∀ d, o.dst = some d → d < a.tmps.size) (hk : KOK L G w s μ a o.dst k r K)
  (hop : opt (isNilA (evA h s.fr x)) (fun b => guardB (!b) (k (untype (evA h s.fr x)) (stripSlots h.take s) μ)) = some r) : o.wp P a w K Q := by
 obtain ⟨b, h1, h2⟩ := opt_some.1 hop
 obtain ⟨h3, h4⟩ := guardB_some.1 h2
 have hb : b = false := by simpa using h3
 subst hb
 obtain ⟨h5, h6⟩ := untype_rel (eval_rel R h x).1
 exact pure_case R hd hk h4 (isNilA_nilCheck h1 (eval_rel R h x).1 x rfl ho) h5 fun b hb => (eval_rel R h x).2 b (h6 b hb)
theorem c_binOp {op : BinOp} {t ty : TypeId} {x y : Operand} (ho : o.op = .binOp op t x y ty) (R : Rel G L s μ a.tmps w) (hd : ∀ d, o.dst = some d → d < a.tmps.size) (hk : KOK L G w s μ a o.dst k r K)
  (hop : (binK P op t x y (evA h s.fr x) (evA h s.fr y) fun c => k (.cv c) (stripSlots h.take s) μ) = some r) : o.wp P a w K Q := by
 obtain ⟨c, h1, h2⟩ := binK_binA (fun _ e => by subst e; rfl) (fun _ e => by subst e; rfl) hop
 refine cv_case R hd hk h2 ?_
 obtain ⟨cv, h3, h4⟩ := binA_run h1 (eval_rel R h x).1 (eval_rel R h y).1 (fun cc e => by subst e; rfl) (fun cc e => by subst e; rfl)
 refine ⟨cv, ?_, by subst h4; simp [VR]⟩
 simp only [execOp, ho]
 exact run_v h3
theorem c_unOp {op : UnOp} {t : TypeId} {x : Operand} (ho : o.op = .unOp op t x) (R : Rel G L s μ a.tmps w) (hd : ∀ d, o.dst = some d → d < a.tmps.size) (hk : KOK L G w s μ a o.dst k r K)
  (hop : opt (unA op (evA h s.fr x)) (fun c => k (.cv c) (stripSlots h.take s) μ) = some r) : o.wp P a w K Q := by
 obtain ⟨c, h1, h2⟩ := opt_some.1 hop
 refine cv_case R hd hk h2 ?_
 obtain ⟨cv, h3, h4⟩ := unA_run (P := P) h1 (eval_rel R h x).1
 refine ⟨cv, ?_, by subst h4; simp [VR]⟩
 simp only [execOp, ho]
 exact run_v h3
theorem c_makeInterface {t : TypeId} {x : Operand} {d : TypeDesc} (ho : o.op = .makeInterface t x) (hu : P.underlying t = some d) (hni : ∀ ms, d ≠ .interface ms) (R : Rel G L s μ a.tmps w) (hd : ∀ d, o.dst = some d → d < a.tmps.size) (hk : KOK L G w s μ a o.dst k r K)
  (hop : opt (getCv (evA h s.fr x)) (fun c => k (.cv (.iface t c)) (stripSlots h.take s) μ) = some r) : o.wp P a w K Q := by
 obtain ⟨c, h1, h2⟩ := opt_some.1 hop
 refine cv_case R hd hk h2 ⟨.iface t (a.eval x), ?_, by simp only [VR]; exact ⟨_, rfl, getCv_rel h1 (eval_rel R h x).1⟩⟩
 simp only [execOp, ho]
 refine run_v ?_
 simp only [Instr.makeInterface, Sem.run_bind, run_underlying hu, Result.andThen_ok]
 cases d <;> first | exact absurd rfl (hni _) | rfl
theorem c_makeFunc {f : FuncId} {first captured : Array Operand} (ho : o.op = .makeFunc (.func f) first captured) (hf : first.toList = []) (R : Rel G L s μ a.tmps w) (hd : ∀ d, o.dst = some d → d < a.tmps.size) (hk : KOK L G w s μ a o.dst k r K)
  (hop : k (.lclo f (captured.toList.map fun x => strip1 (evA h s.fr x))) (stripSlots h.take s) μ = some r) : o.wp P a w K Q := by
 have hf' : first = #[] := by cases first; simp_all
 subst hf'
 refine pure_case R hd hk hop (cv := .func (.func f) #[] (captured.map a.eval)) ?_ ?_ (fun b hb => by simp [Owns] at hb)
 ·simp only [execOp, ho]; exact run_v (by simp [Instr.makeFunc])
 ·simp only [LVR]
  refine ⟨_, rfl, ?_⟩
  rw [Array.toList_map]
  generalize captured.toList = l
  induction l with
  | nil => simp [LVRL]
  | cons x l ih =>
   simp only [List.map_cons, LVRL]
   exact ⟨_, _, rfl, (LVR_strip1 (eval_rel R h x).1).2, (LVR_strip1 (eval_rel R h x).1).1, ih⟩
theorem c_extract {x : Operand} {i : Nat} (ho : o.op = .extract x i) (R : Rel G L s μ a.tmps w) (hd : ∀ d, o.dst = some d → d < a.tmps.size) (hk : KOK L G w s μ a o.dst k r K)
  (hop : opt (getTup (evA h s.fr x)) (fun xs => opt (xs[i]?) fun v => k v (stripSlots h.take s) μ) = some r) : o.wp P a w K Q := by
 obtain ⟨xs, h1, h2⟩ := opt_some.1 hop
 obtain ⟨v, h3, h4⟩ := opt_some.1 h2
 have hv := (eval_rel R h x).1
 rw [getTup_eq h1] at hv
 simp only [LVR] at hv
 obtain ⟨vs, e, hl⟩ := hv
 obtain ⟨cv, h5, h6, h7⟩ := (LVRL_get hl).2 i v h3
 refine pure_case R hd hk h4 (cv := cv) ?_ h6 (fun b hb => absurd hb (Owns_not h7))
 simp only [execOp, ho, e]
 refine run_v ?_
 have h5' : vs[i]? = some cv := by simpa using h5
 simp [Instr.extract, h5']
theorem c_panic {x : Operand} {t : TypeId} {c : CV} (ho : o.op = .panic x) (R : Rel G L s μ a.tmps w) (hp : POK L G w s μ a p r Q) (he : evA h s.fr x = .cv (.iface t c))
  (hop : p (.iface t c) (stripSlots h.take s) μ = some r) : o.wp P a w K Q := by
 obtain ⟨R', hh⟩ := Rel.strips h.take R
 have hl := stripSlots_lam h.take s
 have hv := eval_cv R he
 have hv' := hv
 simp only [VR] at hv'
 obtain ⟨u, e, _⟩ := hv'
 refine wp_of_panic (v := a.eval x) (w' := w) ?_ (hp _ _ μ _ w G hop R' hv (Ext.refl G w fun b hb => ?_))
 ·rw [e]; simp only [execOp, ho, e]; rfl
 ·rcases hb with ⟨l, hb⟩ | hb
  ·exact .inl ⟨l, (hh l b (by rw [← hl.1]; exact hb)).2⟩
  ·exact .inr (by rw [← hl.1]; exact hb)
end
end Go.Abs

set_option linter.unusedVariables false
set_option linter.unusedSimpArgs false
namespace Go.Abs
open Go
theorem Le_below (G : Gh) (w : World) (lev : Nat) : Le (G.below lev) w G w := by
 refine ⟨fun _ _ _ h hb => ⟨h, hb⟩, fun l i h => ?_, fun _ _ _ h hc => ⟨h, hc⟩, fun b cur e fz h => ⟨cur, fz, h, rfl⟩⟩
 simp only [Gh.below] at h ⊢
 split at h
 ·refine ⟨?_, ?_, ?_⟩ <;> first | exact h | trivial | rfl
 ·omega
mutual
theorem LVR_outer {G : Gh} {w : World} {lev L nl : Nat} : ∀ (x : LV) (v : Value), LVR (G.below lev) w lev 0 x v → LVR G w L nl x v
 | .cv c, v, h => by simp only [LVR] at h ⊢; exact VR_mono (Le_below G w lev) c v h
 | .osl xs, v, h => by simp only [LVR] at h ⊢; exact Owned_mono (Le_below G w lev) (fun _ _ _ _ => ⟨rfl, rfl⟩) h
 | .loc i off, v, h => by simp only [LVR] at h; omega
 | .lsl i off len, v, h => by simp only [LVR] at h; omega
 | .mloc i, v, h => by simp only [LVR] at h; omega
 | .tloc i t n, v, h => by simp only [LVR] at h; omega
 | .lclo f caps, v, h => by
  simp only [LVR] at h ⊢
  obtain ⟨vs, e, hl⟩ := h
  exact ⟨vs, e, LVRL_outer caps _ hl⟩
 | .ltup xs, v, h => by
  simp only [LVR] at h ⊢
  obtain ⟨vs, e, hl⟩ := h
  exact ⟨vs, e, LVRL_outer xs _ hl⟩
theorem LVRL_outer {G : Gh} {w : World} {lev L nl : Nat} : ∀ (xs : List LV) (vs : List Value), LVRL (G.below lev) w lev 0 xs vs → LVRL G w L nl xs vs
 | [], vs, h => by simpa [LVRL] using h
 | x :: xs, vs, h => by
  simp only [LVRL] at h ⊢
  obtain ⟨v, r, e, h0, h1, h2⟩ := h
  exact ⟨v, r, e, h0, LVR_outer x v h1, LVRL_outer xs r h2⟩
end
section
variable {P : Program} {ρ : Rho} {α : Type} {L : Nat} {G : Gh} {w : World} {s : S} {μ : Mu} {a : Act} {o : Oper} {h : OpHint} {k : LV → S → Mu → Option α} {p : CV → S → Mu → Option α} {r : α} {K : Act → World → Prop} {Q : Exit → Act → World → Prop}
theorem getD_toCVs {cs : List LV} {l : List CV} {nl : Nat} {vs : List Value} (hl : toCVs cs = some l) (hlen : vs.length = cs.length) (hr : ∀ j x, cs[j]? = some x → LVR G w L nl x (vs.getD j undef)) : VRL G w l vs := by
 obtain ⟨e, hg⟩ := toCVs_get hl
 refine VRL_of_get (by omega) fun j c v hc hv => ?_
 obtain ⟨x, hx, hgc⟩ := hg j c hc
 have := hr j x hx
 rw [List.getD_eq_getElem?_getD, hv] at this
 exact getCv_rel hgc this
theorem obRead_sound {t : TypeId} {ob : Ob} {off nl b sz : Nat} {v : LV} (hob : ObR G w L nl b sz ob) (h : obRead1 P t ob off = some v) (hd : ∃ d, P.underlying t = some d) :
  ∃ cv, (Instr.loadAt t (.pointer (some ⟨b, off, none⟩))).run P w = .ok cv w ∧ LVR G w L nl v cv ∧ ∀ b', ¬ Owns v cv b' := by
 unfold obRead1 at h
 cases ob with
 | dead => simp at h
 | map ks vs => simp at h
 | cells cs =>
  simp only [ObR] at hob h
  obtain ⟨cur, e, fz, hb, hu, hO, hsz, hr⟩ := hob
  have hcell : ∀ (n : Nat) (hn : off + n ≤ cur.size) (j : Nat) v, ((List.range n).map fun j => cur.getD (off + j) undef)[j]? = some v → w.cell? ⟨b, off + j, none⟩ = some v := by
   intro n hn j v hv
   simp only [List.getElem?_map, Option.map_eq_some_iff] at hv
   obtain ⟨q, hq, rfl⟩ := hv
   have hj : j < n := by have := (List.getElem?_eq_some_iff.1 hq).1; simpa using this
   have : q = j := by rw [List.getElem?_range hj] at hq; exact (Option.some.inj hq).symm
   subst this
   exact cell_of_heap hb (by omega)
  split at h
  ·rename_i ha
   obtain ⟨n, hn, h⟩ := opt_some.1 h
   split at h <;> try (simp at h; done)
   rename_i hle
   have hle := Nat.le_of_ble_eq_true hle
   obtain ⟨l, hl, h⟩ := opt_some.1 h
   simp only [Option.some.injEq] at h
   subst h
   refine ⟨_, (load_list (hcell n (by omega)) hd).1 ha n hn (by simp), ?_, fun b' hb' => by simp [Owns] at hb'⟩
   simp only [LVR, VR]
   refine ⟨_, rfl, getD_toCVs (L := L) (nl := nl) hl (by simp only [List.length_map, List.length_range, List.length_take, List.length_drop]; omega) fun j x hx => ?_⟩
   have hjn : j < n := by
    have := (List.getElem?_eq_some_iff.1 hx).1
    simp only [List.length_take] at this; omega
   rw [List.getElem?_take_of_lt hjn, List.getElem?_drop] at hx
   have := hr (off + j) x hx
   rw [List.getD_eq_getElem?_getD]
   simpa [List.getElem?_map, List.getElem?_range hjn] using this
  ·rename_i ha
   split at h <;> simp only [Option.some.injEq, reduceCtorEq] at h
   rename_i x hx
   subst h
   have hj : off < cs.length := (List.getElem?_eq_some_iff.1 hx).1
   refine ⟨cur.getD off undef, (load_list (vs := [cur.getD off undef]) (fun j u hu => ?_) hd).2 (by simpa using ha) _ rfl, LVR_strip (hr off x hx), fun b' => Owns_strip⟩
   cases j with
   | zero => simp only [List.getElem?_cons_zero, Option.some.injEq] at hu; subst hu; exact cell_of_heap hb (by omega)
   | succ j => simp at hu
 | arr k cs =>
  simp only [ObR] at hob h
  obtain ⟨hk, cur, e, fz, hb, hu, hO, hsz, hr⟩ := hob
  obtain ⟨c, hc, h⟩ := opt_some.1 h
  simp only [Option.some.injEq] at h
  subst h
  have hO' : Le G w (G.setO b cur.size) w → CL (G.setO b cur.size) w b 0 cs := fun hle => CL_of fun j c hc => by
   have hj : j < cur.size := by have := (List.getElem?_eq_some_iff.1 hc).1; omega
   exact ⟨cur.getD j undef, by rw [Nat.zero_add]; exact cell_of_heap hb hj, by rw [setO_same]; omega, VR_mono hle c _ (hr j c hc)⟩
  unfold takeAgg1 at hc
  split at hc
  ·rename_i ha
   obtain ⟨n, hn, hc⟩ := opt_some.1 hc
   split at hc <;> simp only [Option.some.injEq, reduceCtorEq] at hc
   rename_i hle
   have hle := Nat.le_of_ble_eq_true hle
   subst hc
   have hcell : ∀ (j : Nat) v, ((List.range n).map fun j => cur.getD (off + j) undef)[j]? = some v → w.cell? ⟨b, off + j, none⟩ = some v := by
    intro j v hv
    simp only [List.getElem?_map, Option.map_eq_some_iff] at hv
    obtain ⟨q, hq, rfl⟩ := hv
    have hj : j < n := by have := (List.getElem?_eq_some_iff.1 hq).1; simpa using this
    have : q = j := by rw [List.getElem?_range hj] at hq; exact (Option.some.inj hq).symm
    subst this
    exact cell_of_heap hb (by omega)
   refine ⟨_, (load_list hcell hd).1 ha n hn (by simp), ?_, fun b' hb' => by simp [Owns] at hb'⟩
   simp only [LVR, VR]
   refine ⟨_, rfl, VRL_of_get (by simp only [List.length_map, List.length_range, List.length_take, List.length_drop]; omega) fun j c v hc hv => ?_⟩
   have hjn : j < n := by
    have := (List.getElem?_eq_some_iff.1 hc).1
    simp only [List.length_take] at this; omega
   rw [List.getElem?_take_of_lt hjn, List.getElem?_drop] at hc
   have := hr (off + j) c hc
   have hv' : v = cur.getD (off + j) undef := by
    simp only [List.getElem?_map, List.getElem?_range hjn, Option.map_some, Option.some.injEq] at hv
    exact hv.symm
   rw [hv']; exact this
  ·rename_i ha
   have hj : off < cs.length := (List.getElem?_eq_some_iff.1 hc).1
   refine ⟨cur.getD off undef, (load_list (vs := [cur.getD off undef]) (fun j u hu => ?_) hd).2 (by simpa using ha) _ rfl, by simp only [LVR]; exact hr off c hc, fun b' hb' => by simp [Owns] at hb'⟩
   cases j with
   | zero => simp only [List.getElem?_cons_zero, Option.some.injEq] at hu; subst hu; exact cell_of_heap hb (by omega)
   | succ j => simp at hu
theorem takeAgg_split {t : TypeId} {cs : List CV} {off : Nat} {c : CV} (h : takeAgg P t cs off = some c) : takeAgg1 P t cs off = some c ∧ ∃ d, P.underlying t = some d := by
 unfold takeAgg at h
 obtain ⟨d, h1, h2⟩ := opt_some.1 h
 exact ⟨h2, d, h1⟩
theorem c_field {t : TypeId} {x : Operand} {f : Nat} (ho : o.op = .field t x f) (R : Rel G L s μ a.tmps w) (hd : ∀ d, o.dst = some d → d < a.tmps.size) (hk : KOK L G w s μ a o.dst k r K)
  (hop : opt (fieldA P t (evA h s.fr x) f) (fun v => k v (stripSlots h.take s) μ) = some r) : o.wp P a w K Q := by
 obtain ⟨v, h1, h2⟩ := opt_some.1 hop
 unfold fieldA at h1
 obtain ⟨q, hq, h1⟩ := opt_some.1 h1
 obtain ⟨cs, hc, h1⟩ := opt_some.1 h1
 obtain ⟨c, ht, h1⟩ := opt_some.1 h1
 simp only [Option.some.injEq] at h1
 subst h1
 have hv := eval_cv R (getAgg_eq hc)
 simp only [VR] at hv
 obtain ⟨vs, e, hl⟩ := hv
 obtain ⟨u, h3, h4⟩ := field_run hq (takeAgg_split ht).1 (takeAgg_split ht).2 hl
 refine cv_case R hd hk h2 ⟨u, ?_, h4⟩
 simp only [execOp, ho, e]
 exact run_v h3
theorem cells_view {cs cs' : List CV} {b off n : Nat} (h : CL G w b off cs) (hf : Fine cs cs') (hn : n ≤ cs'.length) : VR G w (.view (cs'.drop n)) (.pointer (some ⟨b, off + n, none⟩)) := by
 simp only [VR]
 exact ⟨b, off + n, rfl, CL_drop n (hf.CL h)⟩
theorem c_fieldAddr {t : TypeId} {x : Operand} {f : Nat} (ho : o.op = .fieldAddr t x f) (R : Rel G L s μ a.tmps w) (hd : ∀ d, o.dst = some d → d < a.tmps.size) (hk : KOK L G w s μ a o.dst k r K)
  (hop : fieldAddrK P h t (evA h s.fr x) f (fun v => k v (stripSlots h.take s) μ) = some r) : o.wp P a w K Q := by
 unfold fieldAddrK at hop
 obtain ⟨q, hq, hop⟩ := opt_some.1 hop
 have hrun : ∀ b off, a.eval x = .pointer (some ⟨b, off, none⟩) → (execOp a.eval o).run P w = .ok (.value (.pointer (some ⟨b, off + q.1, none⟩))) w := by
  intro b off e
  simp only [execOp, ho, e]
  exact run_v (fieldAt_run hq b off)
 split at hop
 ·rename_i i off he
  have hv := (eval_rel R h x).1
  rw [he] at hv
  simp only [LVR] at hv
  exact pure_case R hd hk hop (hrun _ _ hv.2) (by simp only [LVR]; exact ⟨hv.1, trivial⟩) (fun b hb => by simp [Owns] at hb)
 ·rename_i c he
  split at hop
  ·obtain ⟨cs, hc, hop⟩ := opt_some.1 hop
   obtain ⟨cs', h1, hf⟩ := cellsK_sound hop
   obtain ⟨hle, h2⟩ := guardB_some.1 h1
   have hv := eval_cv R (getView_eq hc)
   simp only [VR] at hv
   obtain ⟨b, off, e, hl⟩ := hv
   exact cv_case R hd hk h2 ⟨_, hrun b off e, cells_view hl hf (Nat.le_of_ble_eq_true hle)⟩
  ·obtain ⟨q', hc, hop⟩ := opt_some.1 hop
   have hv := eval_cv R (getRef_eq hc)
   simp only [VR] at hv
   exact cv_case R hd hk hop ⟨_, hrun _ _ hv.2, by simp only [VR]; exact ⟨hv.1, trivial⟩⟩
 ·simp at hop
theorem muSet_loc {l : Lam} {i : Nat} {o : Ob} : muSet (μ ++ [l]) μ.length i o = μ ++ [l.set i o] := by
 simp [muSet]
theorem muSet_out {l : Lam} {lev i : Nat} {o : Ob} (h : lev < μ.length) : muSet (μ ++ [l]) lev i o = muSet μ lev i o ++ [l] := by
 unfold muSet
 rw [List.getElem?_append_left h]
 cases μ[lev]? with
 | none => rfl
 | some x => simp [List.set_append_left _ _ h]
theorem obTake_some {t : TypeId} {ob : Ob} {off : Nat} {q : LV × Ob} (h : obTake P t ob off = some q) : isAggT P t = false ∧ (∃ d, P.underlying t = some d) ∧ ∃ cs, ob = .cells cs ∧ cs[off]? = some q.1 ∧ q.2 = .cells (cs.set off (strip q.1)) := by
 unfold obTake at h
 obtain ⟨d, hd, h⟩ := opt_some.1 h
 split at h <;> try (simp at h; done)
 rename_i ha
 cases ob with
 | dead => simp at h
 | map ks vs => simp at h
 | arr k cs => simp at h
 | cells cs =>
  simp only at h
  cases hx : cs[off]? with
  | none => simp [hx] at h
  | some x =>
   simp only [hx, Option.some.injEq] at h
   subst h
   exact ⟨by simpa using ha, ⟨d, hd⟩, cs, rfl, hx, rfl⟩
theorem load_one {t : TypeId} {b off : Nat} {cur : Array Value} {e : TypeId} {fz : Nat × Nat} (hb : w.heap[b]? = some (.cells cur e fz)) (hoff : off < cur.size) (ha : isAggT P t = false) (hd : ∃ d, P.underlying t = some d) :
  (Instr.loadAt t (.pointer (some ⟨b, off, none⟩))).run P w = .ok (cur.getD off undef) w := by
 refine (load_list (vs := [cur.getD off undef]) (fun j u hu => ?_) hd).2 ha _ rfl
 cases j with
 | zero => simp only [List.getElem?_cons_zero, Option.some.injEq] at hu; subst hu; exact cell_of_heap hb hoff
 | succ j => simp at hu
theorem strips_ext (R : Rel G L s μ a.tmps w) (ts : List Nat) : Rel G L (stripSlots ts s) μ a.tmps w ∧ Ext L (TouchS G w s μ a.tmps) G w G w (TouchS G w (stripSlots ts s) μ a.tmps) ∧
  (∀ l b, OwnsAt G w (stripSlots ts s).fr a.tmps (μ ++ [(stripSlots ts s).lam]) l b → (∀ t, t ∈ ts → l ≠ .fr t) ∧ OwnsAt G w s.fr a.tmps (μ ++ [s.lam]) l b) := by
 obtain ⟨R', h⟩ := Rel.strips ts R
 have hl := stripSlots_lam ts s
 refine ⟨R', Ext.refl G w fun b hb => ?_, fun l b hb => h l b (by rw [← hl.1]; exact hb)⟩
 rcases hb with ⟨l, hb⟩ | hb
 ·exact .inl ⟨l, (h l b (by rw [← hl.1]; exact hb)).2⟩
 ·exact .inr (by rw [← hl.1]; exact hb)
theorem c_load {t : TypeId} {x : Operand} (ho : o.op = .load t x) (R : Rel G L s μ a.tmps w) (hd : ∀ d, o.dst = some d → d < a.tmps.size) (hk : KOK L G w s μ a o.dst k r K)
  (hop : loadK P h t (evA h s.fr x) (stripSlots h.take s) μ k = some r) : o.wp P a w K Q := by
 have hl := stripSlots_lam h.take s
 obtain ⟨R1, E1, _⟩ := strips_ext R h.take
 unfold loadK at hop
 split at hop
 ·rename_i i off he
  have hv := (eval_rel R h x).1
  rw [he] at hv
  simp only [LVR] at hv
  split at hop <;> try (simp at hop; done)
  split at hop
  ·obtain ⟨v, h1, h2⟩ := opt_some.1 hop
   unfold obRead at h1
   obtain ⟨d, h3, h1⟩ := opt_some.1 h1
   rw [hl.1] at h1
   obtain ⟨cv, h4, h5, h6⟩ := obRead_sound (R.lam i) h1 ⟨d, h3⟩
   obtain ⟨y, h7, h8⟩ := typedIf_sound h2
   obtain ⟨h9, h10⟩ := h8 G w L s.lam.length cv h5
   refine pure_case R hd hk h7 (cv := cv) ?_ h9 (fun b hb => absurd (h10 b hb) (h6 b))
   simp only [execOp, ho, hv.2]
   exact run_v h4
  ·obtain ⟨q, h1, h2⟩ := opt_some.1 hop
   obtain ⟨ha, hu, cs, hob, hx, hq⟩ := obTake_some h1
   have hob' : obAt (μ ++ [(stripSlots h.take s).lam]) L i = .cells cs := by rw [← R.lev]; exact muOb_eq.trans hob
   obtain ⟨cur, e, fz, hb, hoff, R2, hT, hval, hown⟩ := R1.takeOb (s1 := { stripSlots h.take s with lam := (stripSlots h.take s).lam.set i q.2 }) (μ1 := μ) hob' hx rfl rfl (by simp) rfl (by rw [hq, ← R.lev]; exact muSet_loc.symm)
   have hval' : LVR G w L (stripSlots h.take s).lam.length q.1 (cur.getD off undef) := by
    rcases hval with ⟨_, hval⟩ | ⟨h0, _⟩
    ·exact hval
    ·omega
   obtain ⟨R3, E3⟩ := step_done (dst := o.dst) (v := q.1) (cv := cur.getD off undef) R2 (E1.weaken (fun _ h => h) (fun b hb => hT b hb)) (by simpa using hval') (fun b hb => ⟨(hown b hb).1, (hown b hb).2.1, (E1.grow b (hown b hb).2.2)⟩) hd
   refine wp_of_value ?_ (hk _ _ μ _ w G h2 R3 E3)
   simp only [execOp, ho, hv.2]
   exact run_v (load_one hb hoff ha hu)
 ·split at hop
  ·obtain ⟨cs, hc, hop⟩ := opt_some.1 hop
   obtain ⟨c, ht, hop⟩ := opt_some.1 hop
   have hv := eval_cv R (getView_eq hc)
   simp only [VR] at hv
   obtain ⟨b, off, e, hcl⟩ := hv
   obtain ⟨u, h1, h2⟩ := takeAgg_load (takeAgg_split ht).1 (takeAgg_split ht).2 hcl
   refine cv_case R hd hk hop ⟨u, ?_, h2⟩
   simp only [execOp, ho, e]
   exact run_v h1
  ·obtain ⟨q, hc, hop⟩ := opt_some.1 hop
   have hv := eval_cv R (getRef_eq hc)
   simp only [VR] at hv
   split at hop
   ·obtain ⟨v, h1, hop⟩ := opt_some.1 hop
    unfold obRead at h1
    obtain ⟨d, h3, h1⟩ := opt_some.1 h1
    have hq : q.1 < L := by
     rw [← R.lev]
     by_cases hq : q.1 < μ.length
     ·exact hq
     ·simp only [muOb] at h1
      rw [List.getElem?_eq_none (by omega)] at h1
      simp [obRead1] at h1
    obtain ⟨cv, h4, h5, h6⟩ := obRead_sound (R.mu q.1 q.2.1 hq) h1 ⟨d, h3⟩
    obtain ⟨y, h7, h8⟩ := typedK_sound hop
    obtain ⟨h9, h10⟩ := h8 G w L s.lam.length cv (LVR_outer v cv h5)
    refine pure_case R hd hk h7 (cv := cv) ?_ h9 (fun b hb => absurd (h10 b hb) (h6 b))
    simp only [execOp, ho, hv.2]
    exact run_v h4
   ·obtain ⟨q', h1, hop⟩ := opt_some.1 hop
    obtain ⟨ha, hu, cs, hob, hx, hq'⟩ := obTake_some h1
    have hq : q.1 < μ.length := by
     by_cases hq : q.1 < μ.length
     ·exact hq
     ·simp only [muOb] at hob
      rw [List.getElem?_eq_none (by omega)] at hob
      cases hob
    have hob' : obAt (μ ++ [(stripSlots h.take s).lam]) q.1 q.2.1 = .cells cs := (muOb_lt hq).trans hob
    obtain ⟨cur, e, fz, hb, hoff, R2, hT, hval, hown⟩ := R1.takeOb (s1 := stripSlots h.take s) (μ1 := muSet μ q.1 q.2.1 q'.2) hob' hx rfl rfl rfl muSet_len.1 (by rw [hq']; exact (muSet_out hq).symm)
    have hval' : LVR G w L (stripSlots h.take s).lam.length q'.1 (cur.getD q.2.2 undef) := by
     rcases hval with ⟨h0, _⟩ | ⟨_, hval⟩
     ·rw [R.lev] at hq; omega
     ·exact LVR_outer _ _ hval
    obtain ⟨y, h7, h8⟩ := typedK_sound hop
    obtain ⟨h9, h10⟩ := h8 G w L _ _ hval'
    obtain ⟨R3, E3⟩ := step_done (dst := o.dst) (v := y) (cv := cur.getD q.2.2 undef) R2 (E1.weaken (fun _ h => h) (fun b hb => hT b hb)) h9 (fun b hb => ⟨(hown b (h10 b hb)).1, (hown b (h10 b hb)).2.1, (E1.grow b (hown b (h10 b hb)).2.2)⟩) hd
    refine wp_of_value ?_ (hk _ _ _ _ w G h7 R3 E3)
    simp only [execOp, ho, hv.2]
    exact run_v (load_one hb hoff ha hu)
 ·simp at hop
theorem slAt_some {xs : List CV} {i : Int} {c : CV} (h : slAt xs i = some c) : 0 ≤ i ∧ xs[i.toNat]? = some c := by
 unfold slAt at h
 split at h <;> try (simp at h; done)
 rename_i h0
 exact ⟨by simpa using h0, h⟩
theorem inRange_some {i : Int} {n : Nat} (h : inRange i n = true) : 0 ≤ i ∧ i < (n : Int) := by
 simpa [inRange] using h
theorem cells_ne_agg {c : CV} (h : ∀ cs, c ≠ .agg cs) : c.cells = [c] := by
 cases c <;> first | rfl | exact absurd rfl (h _)
theorem cellK_cv {β : Type} {d : TypeDesc} {c : CV} {k : CV → Option β} {r : β} (h : cellK d (.cv c) k = some r) :
  ∃ c' : CV, k c' = some r ∧ (c' = c ∨ ((∀ cs, c ≠ .agg cs) ∧ ∀ cs, c' ≠ .agg cs)) ∧ ∀ (G : Gh) (w : World) (v : Value), VR G w c v → VR G w c' v := by
 obtain ⟨c0, h0, hr⟩ := cellK_sound h
 unfold cellK at h
 split at h <;> obtain ⟨q, h1, h2⟩ := opt_some.1 h
 ·have := getInt_eq h1
  injection this with this
  subst this
  exact ⟨_, h2, .inl rfl, fun _ _ _ h => h⟩
 ·have := getBool_eq h1
  injection this with this
  subst this
  exact ⟨_, h2, .inl rfl, fun _ _ _ h => h⟩
 ·have := getStr_eq h1
  injection this with this
  subst this
  exact ⟨_, h2, .inl rfl, fun _ _ _ h => h⟩
 ·refine ⟨_, h2, .inr ⟨fun cs e => ?_, by simp⟩, fun G w v hv => getSl_rel (L := 0) (nl := 0) h1 (by simpa [LVR] using hv)⟩
  subst e
  simp [getSl] at h1
 ·simp only [getCv, Option.some.injEq] at h1
  subst h1
  exact ⟨_, h2, .inl rfl, fun _ _ _ h => h⟩
theorem c_indexAddr {t : TypeId} {x ix : Operand} (ho : o.op = .indexAddr t x ix) (R : Rel G L s μ a.tmps w) (hd : ∀ d, o.dst = some d → d < a.tmps.size) (hk : KOK L G w s μ a o.dst k r K)
  (hop : opt (anyInt (evA h s.fr ix)) (fun i => indexAddrK P h t (evA h s.fr x) i fun v => k v (stripSlots h.take s) μ) = some r) : o.wp P a w K Q := by
 obtain ⟨i, h1, hop⟩ := opt_some.1 hop
 obtain ⟨kd, e1⟩ := anyInt_eq h1
 have hi := eval_int R e1
 have hrunS : ∀ e n b off len cap, P.underlying t = some (.slice e) → sizeT P e = some n → a.eval x = .slice (some ⟨b, off, none⟩) len cap → 0 ≤ i → i < (len : Int) →
   (execOp a.eval o).run P w = .ok (.value (.pointer (some ⟨b, off + i.toNat * n, none⟩))) w := by
  intro e n b off len cap hu hn ea h0 hlt
  simp only [execOp, ho, ea, hi]
  refine run_v ?_
  simp [Instr.indexAt, asIntOf, run_underlying hu, h0, hlt, sizeT_run hn, add_none]
 have hrunA : ∀ e n b off len, P.underlying t = some (.array len e) → sizeT P e = some n → a.eval x = .pointer (some ⟨b, off, none⟩) → 0 ≤ i → i < (len : Int) →
   (execOp a.eval o).run P w = .ok (.value (.pointer (some ⟨b, off + i.toNat * n, none⟩))) w := by
  intro e n b off len hu hn ea h0 hlt
  simp only [execOp, ho, ea, hi]
  refine run_v ?_
  simp [Instr.indexAt, Instr.sureAddr, asIntOf, run_underlying hu, h0, hlt, sizeT_run hn, add_none]
 have hsl : ∀ xs e n, P.underlying t = some (.slice e) → sizeT P e = some n → VR G w (.sl xs) (a.eval x) →
   (opt (slAt xs i) fun c => typedC P e c fun c => guardB (Nat.beq c.cells.length n) (k (.cv (.view c.cells)) (stripSlots h.take s) μ)) = some r → o.wp P a w K Q := by
  intro xs e n hu hn hv hop
  obtain ⟨c, hc, hop⟩ := opt_some.1 hop
  obtain ⟨h0, hget⟩ := slAt_some hc
  simp only [VR] at hv
  obtain ⟨A, len, cap, e2, rfl, hle, hx⟩ := hv
  have hlt : i.toNat < xs.length := (List.getElem?_eq_some_iff.1 hget).1
  rcases hx with hx | ⟨b, off, sz, rfl, hs, hl⟩
  ·omega
  have hcl := EL_CL hl i.toNat c hget
  have hsc : c.cells.length = sz := hs c (List.mem_of_getElem? hget)
  have key : ∃ c' : CV, guardB (Nat.beq c'.cells.length n) (k (.cv (.view c'.cells)) (stripSlots h.take s) μ) = some r ∧ c'.cells.length = sz ∧ CL G w b (off + i.toNat * sz) c'.cells := by
   unfold typedC typedL at hop
   split at hop
   ·obtain ⟨cs, hag, hop1⟩ := opt_some.1 hop
    obtain ⟨cs', hop2, hf⟩ := cellsK_sound hop1
    have := getAgg_eq hag
    injection this with this
    subst this
    exact ⟨_, hop2, by simp only [CV.cells] at hsc ⊢; rw [hf.1]; exact hsc, by simp only [CV.cells] at hcl ⊢; exact hf.CL hcl⟩
   ·split at hop <;> try (simp at hop; done)
    obtain ⟨c', hop1, hcase, hr⟩ := cellK_cv hop
    rcases hcase with rfl | ⟨n1, n2⟩
    ·exact ⟨c', hop1, hsc, hcl⟩
    ·refine ⟨c', hop1, ?_, ?_⟩
     ·rw [cells_ne_agg n1] at hsc
      rw [cells_ne_agg n2]; exact hsc
     ·rw [cells_ne_agg n1] at hcl
      rw [cells_ne_agg n2]
      simp only [CL, and_true] at hcl ⊢
      obtain ⟨v, a1, a2, a3⟩ := hcl
      exact ⟨v, a1, a2, hr G w v a3⟩
  obtain ⟨c', hop1, hlc, hcl'⟩ := key
  obtain ⟨hlen, hop2⟩ := guardB_some.1 hop1
  have hlen := Nat.eq_of_beq_eq_true hlen
  have hsn : sz = n := by omega
  subst hsn
  exact cv_case R hd hk hop2 ⟨_, hrunS e sz b off xs.length cap hu hn e2 h0 (by omega), by simp only [VR]; exact ⟨b, _, rfl, hcl'⟩⟩
 unfold indexAddrK at hop
 split at hop
 ·rename_i e hu
  obtain ⟨n, hn, hop⟩ := opt_some.1 hop
  split at hop
  ·rename_i id off len he
   obtain ⟨hr, hop⟩ := guardB_some.1 hop
   obtain ⟨h0, hlt⟩ := inRange_some hr
   have hv := (eval_rel R h x).1
   rw [he] at hv
   simp only [LVR] at hv
   obtain ⟨hid, cap, cur, e', fz, hv, _⟩ := hv
   exact pure_case R hd hk hop (hrunS e n _ _ len cap hu hn hv h0 hlt) (by simp only [LVR]; exact ⟨hid, trivial⟩) (fun b hb => by simp [Owns] at hb)
  ·rename_i xs he
   have hv := (eval_rel R h x).1
   rw [he] at hv
   simp only [LVR] at hv
   exact hsl xs e n hu hn (Owned_sl hv) hop
  ·split at hop
   ·obtain ⟨xs, hg, hop⟩ := opt_some.1 hop
    exact hsl xs e n hu hn (getSl_rel hg (eval_rel R h x).1) hop
   ·obtain ⟨q, hg, hop⟩ := opt_some.1 hop
    obtain ⟨hr, hop⟩ := guardB_some.1 hop
    obtain ⟨h0, hlt⟩ := inRange_some hr
    have hv := eval_cv R (getMsl_eq hg)
    simp only [VR] at hv
    obtain ⟨hid, cap, cur, e', fz, hv, _⟩ := hv
    exact cv_case R hd hk hop ⟨_, hrunS e n _ _ _ cap hu hn hv h0 hlt, by simp only [VR]; exact ⟨hid, trivial⟩⟩
  ·simp at hop
 ·rename_i len e hu
  obtain ⟨n, hn, hop⟩ := opt_some.1 hop
  split at hop
  ·rename_i id off he
   obtain ⟨hr, hop⟩ := guardB_some.1 hop
   obtain ⟨h0, hlt⟩ := inRange_some hr
   have hv := (eval_rel R h x).1
   rw [he] at hv
   simp only [LVR] at hv
   exact pure_case R hd hk hop (hrunA e n _ _ len hu hn hv.2 h0 hlt) (by simp only [LVR]; exact ⟨hv.1, trivial⟩) (fun b hb => by simp [Owns] at hb)
  ·split at hop
   ·obtain ⟨cs, hg, hop⟩ := opt_some.1 hop
    obtain ⟨hr, hop⟩ := guardB_some.1 hop
    obtain ⟨hle, hop⟩ := guardB_some.1 hop
    obtain ⟨h0, hlt⟩ := inRange_some hr
    have hv := eval_cv R (getView_eq hg)
    simp only [VR] at hv
    obtain ⟨b, off, e2, hcl⟩ := hv
    exact cv_case R hd hk hop ⟨_, hrunA e n b off len hu hn e2 h0 hlt, by simp only [VR]; exact ⟨b, _, rfl, CL_drop _ hcl⟩⟩
   ·obtain ⟨q, hg, hop⟩ := opt_some.1 hop
    obtain ⟨hr, hop⟩ := guardB_some.1 hop
    obtain ⟨h0, hlt⟩ := inRange_some hr
    have hv := eval_cv R (getRef_eq hg)
    simp only [VR] at hv
    exact cv_case R hd hk hop ⟨_, hrunA e n _ _ len hu hn hv.2 h0 hlt, by simp only [VR]; exact ⟨hv.1, trivial⟩⟩
  ·simp at hop
 ·simp at hop
end
end Go.Abs

set_option linter.unusedVariables false
set_option linter.unusedSimpArgs false
namespace Go.Abs
open Go
section
variable {P : Program} {ρ : Rho} {α : Type} {L : Nat} {G : Gh} {w : World} {s : S} {μ : Mu} {a : Act} {o : Oper} {h : OpHint} {k : LV → S → Mu → Option α} {p : CV → S → Mu → Option α} {r : α} {K : Act → World → Prop} {Q : Exit → Act → World → Prop}
theorem c_index {t : TypeId} {x ix : Operand} (ho : o.op = .index t x ix) (R : Rel G L s μ a.tmps w) (hd : ∀ d, o.dst = some d → d < a.tmps.size) (hk : KOK L G w s μ a o.dst k r K)
  (hop : opt (anyInt (evA h s.fr ix)) (fun i => indexK P t (evA h s.fr x) i fun v => k v (stripSlots h.take s) μ) = some r) : o.wp P a w K Q := by
 obtain ⟨i, h1, hop⟩ := opt_some.1 hop
 obtain ⟨kd, e1⟩ := anyInt_eq h1
 have hi := eval_int R e1
 unfold indexK at hop
 split at hop
 ·rename_i hu
  obtain ⟨l, h2, hop⟩ := opt_some.1 hop
  obtain ⟨b, h3, hop⟩ := opt_some.1 hop
  have hv := eval_cv R (getStr_eq h2)
  simp only [VR] at hv
  refine cv_case R hd hk hop ⟨.int .u8 (b.toNat : Int), ?_, by simp [VR]⟩
  simp only [execOp, ho, hv, hi]
  exact run_v (strAt_run hu h3)
 ·rename_i len e hu
  split at hop <;> try (simp at hop; done)
  obtain ⟨cs, h2, hop⟩ := opt_some.1 hop
  obtain ⟨n, hn, hop⟩ := opt_some.1 hop
  obtain ⟨hr, hop⟩ := guardB_some.1 hop
  obtain ⟨c, hc, hop⟩ := opt_some.1 hop
  obtain ⟨c', hop, hr'⟩ := typedL_sound hop
  obtain ⟨h0, hlt⟩ := inRange_some hr
  have hv := eval_cv R (getAgg_eq h2)
  simp only [VR] at hv
  obtain ⟨vs, e2, hl⟩ := hv
  obtain ⟨u, h3, h4⟩ := takeAgg_part (P := P) (takeAgg_split hc).1 (takeAgg_split hc).2 hl
  refine cv_case R hd hk hop ⟨u, ?_, hr' G w 0 0 u (by simpa [LVR] using h4)⟩
  simp only [execOp, ho, e2, hi]
  refine run_v ?_
  simp only [Instr.index, asIntOf, Sem.run_bind, Sem.run_pure, Result.andThen_ok, run_underlying hu, if_pos (And.intro h0 hlt), sizeT_run hn, h3]
 ·simp at hop
theorem c_slice {t : TypeId} {x : Operand} {lo hi : Option Operand} (ho : o.op = .slice t x lo hi none) (R : Rel G L s μ a.tmps w) (hd : ∀ d, o.dst = some d → d < a.tmps.size) (hk : KOK L G w s μ a o.dst k r K)
  (hop : sliceK P t (evA h s.fr x) lo hi (evA h s.fr) (fun v => k v (stripSlots h.take s) μ) = some r) : o.wp P a w K Q := by
 have hrun : ∀ {cv : Value}, (Instr.sliceAt t (a.eval x) (lo.map a.eval) (hi.map a.eval) none).run P w = .ok cv w → (execOp a.eval o).run P w = .ok (.value cv) w := by
  intro cv h
  simp only [execOp, ho]
  exact run_v (by simpa using h)
 unfold sliceK at hop
 split at hop
 ·rename_i hu
  obtain ⟨l, h2, hop⟩ := opt_some.1 hop
  obtain ⟨m, hm, hop⟩ := bound_is R hop
  obtain ⟨n, hn, hop⟩ := bound_is R hop
  obtain ⟨q, hq, hop⟩ := opt_some.1 hop
  have hv := eval_cv R (getStr_eq h2)
  simp only [VR] at hv
  refine cv_case R hd hk hop ⟨.string ⟨⟨q⟩⟩, hrun ?_, by simp [VR]⟩
  rw [hv]
  exact sliceStr_run hu hq hm hn
 ·rename_i e hu
  obtain ⟨sz, hsz, hop⟩ := opt_some.1 hop
  have hsl : ∀ xs, VR G w (.sl xs) (a.eval x) → (boundK (evA h s.fr) lo 0 fun m => boundK (evA h s.fr) hi (xs.length : Int) fun n => guardB (sliceOK sz m xs) (opt (cutA xs m n) fun q => k (.cv (.sl q)) (stripSlots h.take s) μ)) = some r → o.wp P a w K Q := by
   intro xs hv hop
   obtain ⟨m, hm, hop⟩ := bound_is R hop
   obtain ⟨n, hn, hop⟩ := bound_is R hop
   obtain ⟨hg, hop⟩ := guardB_some.1 hop
   obtain ⟨q, hq, hop⟩ := opt_some.1 hop
   obtain ⟨u, h3, h4⟩ := sliceSl_run hu hsz hv hq hg hm hn
   exact cv_case R hd hk hop ⟨u, hrun h3, h4⟩
  split at hop
  ·obtain ⟨xs, h2, hop⟩ := opt_some.1 hop
   exact hsl xs (getSl_rel h2 (eval_rel R h x).1) hop
  ·rename_i xs he
   have hv := (eval_rel R h x).1
   rw [he] at hv
   simp only [LVR] at hv
   exact hsl xs (Owned_sl hv) hop
  ·rename_i id off len he
   obtain ⟨m, hm, hop1⟩ := bound_is R hop
   obtain ⟨n, hn, hop2⟩ := bound_is R hop1
   obtain ⟨hg, hop3⟩ := guardB_some.1 hop2
   clear hop hop1 hop2
   simp only [Bool.and_eq_true, decide_eq_true_eq] at hg
   obtain ⟨⟨hm0, h0⟩, hle⟩ := hg
   rw [hm0] at hm
   have hv := (eval_rel R h x).1
   rw [he] at hv
   simp only [LVR] at hv
   obtain ⟨hid, cap, cur, e', fz, hv, hlc, hcm, hb, hsize⟩ := hv
   have hbs := sliceBounds_run (P := P) (w := w) (isS := true) hlc (Int.le_refl 0) h0 hle hm hn
   refine pure_case R hd hk hop3 (cv := .slice (some ⟨G.β L id, off, none⟩) n.toNat cap) (hrun ?_) ?_ (fun b hb => by simp [Owns] at hb)
   ·rw [hv]
    simp only [Instr.sliceAt, Sem.run_bind, run_underlying hu, Result.andThen_ok, Instr.slice, hbs, sizeT_run hsz, Sem.run_pure]
    by_cases hc : cap = 0
    ·simp [hc]
    ·simp [hc, add_none]
   ·simp only [LVR]
    exact ⟨hid, cap, cur, e', fz, rfl, by omega, hcm, hb, hsize⟩
  ·simp at hop
 ·simp at hop
theorem c_len {x : Operand} {t : TypeId} {c : Call} (ho : o.op = .call c) (hc : c.callee = .builtin .len) (hx : c.args.toList = [x]) (ht : c.argTypes.toList = [t]) (R : Rel G L s μ a.tmps w) (hd : ∀ d, o.dst = some d → d < a.tmps.size) (hk : KOK L G w s μ a o.dst k r K)
  (hop : opt (lenA P t (evA h s.fr x)) (fun n => k (.cv (.v (.int .i64 n))) (stripSlots h.take s) μ) = some r) : o.wp P a w K Q := by
 obtain ⟨n, h1, h2⟩ := opt_some.1 hop
 have hx' : c.args = #[x] := by cases ha : c.args; simp_all
 have ht' : c.argTypes = #[t] := by cases ha : c.argTypes; simp_all
 refine cv_case R hd hk h2 ⟨.int .i64 n, ?_, by simp [VR]⟩
 have := lenA_run (ty := o.type) h1 (eval_rel R h x).1
 simp only [execOp, ho, resolve, hc, hx', ht', Sem.run_bind, Sem.run_pure, Result.andThen_ok, invoke, builtin, List.map_toArray, List.map_cons, List.map_nil]
 rw [this]; rfl
theorem max_eq (x y : Int) : (if y > x then y else x) = max x y := by
 rw [Int.max_def]; split <;> split <;> omega
theorem min_eq (x y : Int) : (if y < x then y else x) = min x y := by
 rw [Int.min_def]; split <;> split <;> omega
theorem c_max {x y : Operand} {c : Call} (ho : o.op = .call c) (hc : c.callee = .builtin .max) (hx : c.args.toList = [x, y]) (R : Rel G L s μ a.tmps w) (hd : ∀ d, o.dst = some d → d < a.tmps.size) (hk : KOK L G w s μ a o.dst k r K)
  (hop : opt (getInt .i64 (evA h s.fr x)) (fun m => opt (getInt .i64 (evA h s.fr y)) fun n => k (.cv (.v (.int .i64 (max m n)))) (stripSlots h.take s) μ) = some r) : o.wp P a w K Q := by
 obtain ⟨m, h1, hop⟩ := opt_some.1 hop
 obtain ⟨n, h2, hop⟩ := opt_some.1 hop
 have hx' : c.args = #[x, y] := by cases ha : c.args; simp_all
 refine cv_case R hd hk hop ⟨.int .i64 (max m n), ?_, by simp [VR]⟩
 simp only [execOp, ho, resolve, hc, hx', Sem.run_bind, Sem.run_pure, Result.andThen_ok, invoke, builtin, List.map_toArray, List.map_cons, List.map_nil, eval_int R (getInt_eq h1), eval_int R (getInt_eq h2)]
 simp only [Builtin.max_, List.foldlM_cons, List.foldlM_nil, Builtin.max2, Sem.run_bind, Sem.run_pure, Result.andThen_ok, max_eq]
theorem c_min {x y : Operand} {c : Call} (ho : o.op = .call c) (hc : c.callee = .builtin .min) (hx : c.args.toList = [x, y]) (R : Rel G L s μ a.tmps w) (hd : ∀ d, o.dst = some d → d < a.tmps.size) (hk : KOK L G w s μ a o.dst k r K)
  (hop : opt (getInt .i64 (evA h s.fr x)) (fun m => opt (getInt .i64 (evA h s.fr y)) fun n => k (.cv (.v (.int .i64 (min m n)))) (stripSlots h.take s) μ) = some r) : o.wp P a w K Q := by
 obtain ⟨m, h1, hop⟩ := opt_some.1 hop
 obtain ⟨n, h2, hop⟩ := opt_some.1 hop
 have hx' : c.args = #[x, y] := by cases ha : c.args; simp_all
 refine cv_case R hd hk hop ⟨.int .i64 (min m n), ?_, by simp [VR]⟩
 simp only [execOp, ho, resolve, hc, hx', Sem.run_bind, Sem.run_pure, Result.andThen_ok, invoke, builtin, List.map_toArray, List.map_cons, List.map_nil, eval_int R (getInt_eq h1), eval_int R (getInt_eq h2)]
 simp only [Builtin.min_, List.foldlM_cons, List.foldlM_nil, Builtin.min2, Sem.run_bind, Sem.run_pure, Result.andThen_ok, min_eq]
theorem byteCells_some : ∀ {xs : List CV} {l : List UInt8}, byteCells xs = some l → ∃ ns : List Int, xs = ns.map (fun n => .v (.int .u8 n)) ∧ l = ns.map fun n => UInt8.ofNat n.toNat
 | [], l, h => by simp only [byteCells, Option.some.injEq] at h; subst h; exact ⟨[], rfl, rfl⟩
 | c :: r, l, h => by
  unfold byteCells at h
  split at h <;> try (simp at h; done)
  ·rename_i e; cases e
  ·rename_i n r' e
   injection e with e1 e2
   subst e1; subst e2
   split at h <;> try (simp at h; done)
   obtain ⟨l', h1, h2⟩ := opt_some.1 h
   simp only [Option.some.injEq] at h2
   subst h2
   obtain ⟨ns, h3, h4⟩ := byteCells_some h1
   exact ⟨n :: ns, by rw [h3]; rfl, by rw [h4]; rfl⟩
theorem foldl_push (ns : List Int) : ∀ (acc : List UInt8), ns.foldl (fun r n => r.push (UInt8.ofNat n.toNat)) (⟨⟨acc⟩⟩ : ByteArray) = ⟨⟨acc ++ ns.map fun n => UInt8.ofNat n.toNat⟩⟩ := by
 induction ns with
 | nil => intro acc; simp
 | cons n ns ih =>
  intro acc
  simp only [List.foldl_cons, List.map_cons]
  have : (⟨⟨acc⟩⟩ : ByteArray).push (UInt8.ofNat n.toNat) = ⟨⟨acc ++ [UInt8.ofNat n.toNat]⟩⟩ := by
   apply ByteArray.ext
   simp [ByteArray.push]
  rw [this, ih]
  simp
theorem bytesToString_run {A : Addr} {len cap : Nat} {ns : List Int} (hl : len = ns.length) (hc : ∀ (j : Nat) n, ns[j]? = some n → w.cell? (A.add j) = some (.int .u8 n)) :
  (Conv.bytesToString (.slice (some A) len cap)).run P w = .ok (.string ⟨⟨ns.map fun n => UInt8.ofNat n.toNat⟩⟩) w := by
 have h1 : (loadCells A len).run P w = .ok (ns.map (Value.int .u8)).toArray w := by
  have := run_loadCells_list (P := P) w A (ns.map (Value.int .u8)) (fun j v hv => by
   simp only [List.getElem?_map, Option.map_eq_some_iff] at hv
   obtain ⟨n, hn, rfl⟩ := hv
   exact hc j n hn)
  rw [hl]
  simpa using this
 rw [run_bytesToString w A len cap ns h1]
 have := foldl_push ns []
 simp only [List.nil_append] at this
 rw [← this]
 rfl
theorem c_convert {src dst : TypeId} {x : Operand} (ho : o.op = .convert src dst x) (R : Rel G L s μ a.tmps w) (hd : ∀ d, o.dst = some d → d < a.tmps.size) (hk : KOK L G w s μ a o.dst k r K)
  (hop : convertK P h src dst (evA h s.fr x) (stripSlots h.take s) μ k = some r)
  (hsb : ∀ e l, P.underlying dst = some (.slice e) → P.underlying e = some (.int .u8) → P.underlying src = some .string → evA h s.fr x = LV.str l → small l.length = true →
   (match h.arr with
    | true => k (.lsl (stripSlots h.take s).lam.length 0 l.length) { stripSlots h.take s with lam := (stripSlots h.take s).lam ++ [.arr 1 (l.map fun b => .v (.int .u8 (b.toNat : Int)))] } μ
    | false => k (.cv (.sl (l.map fun b => .v (.int .u8 (b.toNat : Int))))) (stripSlots h.take s) μ) = some r → o.wp P a w K Q) : o.wp P a w K Q := by
 have hl := stripSlots_lam h.take s
 have hrun : ∀ {cv : Value}, (convert src dst (a.eval x)).run P w = .ok cv w → (execOp a.eval o).run P w = .ok (.value cv) w := by
  intro cv h
  simp only [execOp, ho]
  exact run_v h
 unfold convertK at hop
 split at hop
 ·rename_i ik hu
  split at hop <;> try (simp at hop; done)
  rename_i ik' hu'
  obtain ⟨n, h1, hop⟩ := opt_some.1 hop
  obtain ⟨kd, e1⟩ := anyInt_eq h1
  refine cv_case R hd hk hop ⟨.int ik (ik.wrap n), hrun ?_, by simp [VR]⟩
  rw [eval_int R e1]
  simp [convert, run_underlying hu, run_underlying hu', Conv.intToInt]
 ·rename_i hu
  split at hop
  ·rename_i hu'
   obtain ⟨l, h1, hop⟩ := opt_some.1 hop
   have hv := eval_cv R (getStr_eq h1)
   simp only [VR] at hv
   refine cv_case R hd hk hop ⟨.string ⟨⟨l⟩⟩, hrun ?_, by simp [VR]⟩
   rw [hv]
   simp [convert, run_underlying hu, run_underlying hu']
  ·rename_i e hu'
   split at hop <;> try (simp at hop; done)
   rename_i hue
   have hconv : ∀ A len cap, a.eval x = .slice A len cap → convert src dst (a.eval x) = convert src dst (.slice A len cap) := fun A len cap e => by rw [e]
   have hcv : ∀ A len cap, (convert src dst (.slice A len cap)).run P w = (Conv.bytesToString (.slice A len cap)).run P w := by
    intro A len cap
    simp [convert, run_underlying hu, run_underlying hu', run_underlying hue]
   split at hop
   ·rename_i id off len he
    split at hop <;> try (simp at hop; done)
    rename_i sz cs hob
    obtain ⟨hle, hop⟩ := guardB_some.1 hop
    have hle := Nat.le_of_ble_eq_true hle
    obtain ⟨l, hb, hop⟩ := opt_some.1 hop
    obtain ⟨ns, h1, h2⟩ := byteCells_some hb
    have hv := (eval_rel R h x).1
    rw [he] at hv
    simp only [LVR] at hv
    obtain ⟨hid, cap, cur, e', fz, hv, hlc, hcm, hbk, hsize⟩ := hv
    have hobr := R.lam id
    rw [hl.1] at hob
    rw [hob] at hobr
    simp only [ObR] at hobr
    obtain ⟨_, cur2, e2, fz2, hbk2, _, _, hsz, hr⟩ := hobr
    have hlen : ns.length = len := by
     have := congrArg List.length h1
     simp only [List.length_take, List.length_drop, List.length_map] at this
     omega
    refine cv_case R hd hk hop ⟨.string ⟨⟨l⟩⟩, hrun ?_, by simp [VR]⟩
    rw [hv, hcv, h2]
    refine bytesToString_run hlen.symm fun j n hn => ?_
    have hj : j < len := by have := (List.getElem?_eq_some_iff.1 hn).1; omega
    rw [add_none, cell_of_heap hbk2 (by omega)]
    have hx : cs[off + j]? = some (.v (.int .u8 n)) := by
     have e3 : ((cs.drop off).take len)[j]? = some (.v (.int .u8 n)) := by rw [h1]; simp [hn]
     rw [List.getElem?_take_of_lt hj, List.getElem?_drop] at e3
     exact e3
    have := hr (off + j) _ hx
    simp only [VR] at this
    rw [this]
   ·obtain ⟨xs, hg, hop⟩ := opt_some.1 hop
    obtain ⟨l, hb, hop⟩ := opt_some.1 hop
    obtain ⟨ns, rfl, rfl⟩ := byteCells_some hb
    have hv := getSl_rel hg (eval_rel R h x).1
    simp only [VR] at hv
    obtain ⟨A, len, cap, e1, e2, _, hx⟩ := hv
    have hlen : len = ns.length := by simpa using e2
    refine cv_case R hd hk hop ⟨.string ⟨⟨ns.map fun n => UInt8.ofNat n.toNat⟩⟩, hrun ?_, by simp [VR]⟩
    rw [e1, hcv]
    cases A with
    | none =>
     have : ns = [] := by
      rcases hx with hx | ⟨b, off, sz, hA, _⟩
      ·exact List.eq_nil_of_length_eq_zero (by omega)
      ·cases hA
     subst this
     rfl
    | some A =>
     refine bytesToString_run hlen fun j n hn => ?_
     have hj : j < ns.length := (List.getElem?_eq_some_iff.1 hn).1
     rcases hx with hx | ⟨b, off, sz, hA, hs, hel⟩
     ·omega
     ·injection hA with hA
      subst hA
      have hcl := EL_CL hel j (.v (.int .u8 n)) (by simp [hn])
      have hsz : sz = 1 := by
       have := hs (.v (.int .u8 n)) (by simp; exact List.mem_of_getElem? hn)
       simpa [CV.cells] using this.symm
      subst hsz
      simp only [CV.cells, CL, and_true] at hcl
      obtain ⟨v, h3, _, h4⟩ := hcl
      simp only [VR] at h4
      subst h4
      rw [add_none]
      simpa using h3
  ·simp at hop
 ·rename_i e hu
  split at hop <;> try (simp at hop; done)
  rename_i hu'
  split at hop <;> try (simp at hop; done)
  rename_i hue
  obtain ⟨l, h1, hop⟩ := opt_some.1 hop
  obtain ⟨hsm, hop⟩ := guardB_some.1 hop
  exact hsb e l hu hue hu' (getStr_eq h1) hsm hop
 ·simp at hop
end
end Go.Abs

set_option linter.unusedVariables false
set_option linter.unusedSimpArgs false
namespace Go.Abs
open Go
theorem unfrozen0 (cur : Array Value) : Unfrozen cur (0, 0) := fun j _ h => by simp at h
section
variable {P : Program} {ρ : Rho} {α : Type} {L : Nat} {G : Gh} {w : World} {s : S} {μ : Mu} {a : Act} {o : Oper} {h : OpHint} {k : LV → S → Mu → Option α} {p : CV → S → Mu → Option α} {r : α} {K : Act → World → Prop} {Q : Exit → Act → World → Prop}
theorem setL_lev {G : Gh} {L m b kk : Nat} {pu : Bool} : ∀ l, l < L → (∀ i, (G.setL L m b kk pu).β l i = G.β l i ∧ (G.setL L m b kk pu).sz l i = G.sz l i) ∧ (G.setL L m b kk pu).n l = G.n l := by
 intro l hl
 have : ¬ l = L := by omega
 simp [Gh.setL, this]
theorem newLocal_done {G0 : Gh} {w0 : World} {T0 : Nat → Prop} (R : Rel G L s μ a.tmps w) (E : Ext L T0 G0 w0 G w (TouchS G w s μ a.tmps)) (hd : ∀ d, o.dst = some d → d < a.tmps.size)
  {cur : Array Value} {e : TypeId} {ob : Ob} {kk : Nat} {fz : Nat × Nat} (hfz : Unfrozen cur fz)
  (hob : (∃ cs, ob = .cells cs ∧ cs.length ≤ cur.size ∧ ∀ j x, cs[j]? = some x → LVR G w L s.lam.length x (cur.getD j undef)) ∨
   (∃ cs, ob = .arr kk cs ∧ cs.length ≤ cur.size ∧ ∀ j x, cs[j]? = some x → VR G w x (cur.getD j undef)))
  (hown : ∀ cs j b, ob = .cells cs → CellOwns cs cur j b → ((∀ l, ¬ OwnsAt G w s.fr a.tmps (μ ++ [s.lam]) l b) ∧ (∀ lev i, isLive (obAt (μ ++ [s.lam]) lev i) → G.β lev i ≠ b) ∧ ∀ j', CellOwns cs cur j' b → j' = j) ∧ (T0 b ∨ w0.heap.size ≤ b))
  {v : LV} {cv : Value} (hv : ∀ G1 w1, G1 = G.setL L s.lam.length w.heap.size kk s.pushed → w1 = w.alloc (.cells cur e fz) → LVR G1 w1 L (s.lam.length + 1) v cv) (hno : ∀ b, ¬ Owns v cv b) :
  ∃ G1, Rel G1 L ({ s with lam := s.lam ++ [ob] }.put o.dst v) μ (a.put o.dst cv).tmps (w.alloc (.cells cur e fz)) ∧
   Ext L T0 G0 w0 G1 (w.alloc (.cells cur e fz)) (TouchS G1 (w.alloc (.cells cur e fz)) ({ s with lam := s.lam ++ [ob] }.put o.dst v) μ (a.put o.dst cv).tmps) := by
 obtain ⟨R1, hle, hT, _⟩ := R.newLocal hfz (e := e) hob fun cs j b h1 h2 => (hown cs j b h1 h2).1
 have E1 : Ext L T0 G0 w0 (G.setL L s.lam.length w.heap.size kk s.pushed) (w.alloc (.cells cur e fz)) (TouchS (G.setL L s.lam.length w.heap.size kk s.pushed) (w.alloc (.cells cur e fz)) { s with lam := s.lam ++ [ob] } μ a.tmps) := by
  refine ⟨E.le.trans hle, E.os, E.tape, E.output, Nat.le_trans E.size (by simp), fun b hb hn => ?_, fun b hb => ?_, fun l hl => ?_⟩
  ·obtain ⟨h1, h2⟩ := E.keep b hb hn
   have hlt : b < w.heap.size := Nat.lt_of_lt_of_le hb E.size
   refine ⟨(heap_alloc_old w _ hlt).trans h1, ?_⟩
   rw [← h2]
   have : b ≠ w.heap.size := by omega
   simp [Gh.setL, this]
  ·rcases hT b hb with h1 | rfl | ⟨cs, j, h1, h2⟩
   ·exact E.grow b h1
   ·exact .inr E.size
   ·exact (hown cs j b h1 h2).2
  ·obtain ⟨h1, h2⟩ := E.lev l hl
   obtain ⟨h3, h4⟩ := setL_lev (G := G) (m := s.lam.length) (b := w.heap.size) (kk := kk) (pu := s.pushed) l hl
   exact ⟨fun i => ⟨(h3 i).1.trans (h1 i).1, (h3 i).2.trans (h1 i).2⟩, h4.trans h2⟩
 obtain ⟨R2, E2⟩ := step_done (dst := o.dst) (v := v) (cv := cv) R1 E1 (by simpa using hv _ _ rfl rfl) (fun b hb => absurd hb (hno b)) hd
 exact ⟨_, R2, E2⟩
theorem loc_new {cur : Array Value} {e : TypeId} {fz : Nat × Nat} {kk : Nat} : ∀ G1 w1, G1 = G.setL L s.lam.length w.heap.size kk s.pushed → w1 = w.alloc (.cells cur e fz) →
  LVR G1 w1 L (s.lam.length + 1) (.loc s.lam.length 0) (.pointer (some ⟨w.heap.size, 0, none⟩)) := by
 intro G1 w1 hG hw
 subst hG
 simp only [LVR]
 exact ⟨by omega, by simp [Gh.setL]⟩
theorem allocV_new {b : Bool} {n : Nat} {cur : Array Value} {e : TypeId} {fz : Nat × Nat} {kk : Nat} (hn : cur.size = n) : ∀ G1 w1, G1 = G.setL L s.lam.length w.heap.size kk s.pushed → w1 = w.alloc (.cells cur e fz) →
  LVR G1 w1 L (s.lam.length + 1) (allocV b s.lam.length e n) (.pointer (some ⟨w.heap.size, 0, none⟩)) := by
 intro G1 w1 hG hw
 cases b with
 | false => exact loc_new G1 w1 hG hw
 | true =>
  subst hG
  subst hw
  simp only [LVR, allocV]
  have e1 : (G.setL L s.lam.length w.heap.size kk s.pushed).β L s.lam.length = w.heap.size := by simp [Gh.setL]
  exact ⟨by omega, by rw [e1], cur, fz, by rw [e1]; exact Array.getElem?_push_size, hn⟩
theorem VRL_cells {cs : List CV} {cur : Array Value} (hl : VRL G w cs cur.toList) {nl : Nat} : (cs.map LV.cv).length ≤ cur.size ∧ ∀ j x, (cs.map LV.cv)[j]? = some x → LVR G w L nl x (cur.getD j undef) := by
 obtain ⟨e, hg⟩ := VRL_get hl
 refine ⟨by simp at e ⊢; omega, fun j x hx => ?_⟩
 simp only [List.getElem?_map, Option.map_eq_some_iff] at hx
 obtain ⟨c, hc, rfl⟩ := hx
 obtain ⟨v, hv, hr⟩ := hg j c hc
 simp only [LVR]
 have : cur.getD j undef = v := by
  rw [Array.getElem?_toList] at hv
  simp [Array.getD_eq_getD_getElem?, hv]
 rw [this]; exact hr
theorem cellOwns_cv {cs : List CV} {cur : Array Value} {j b : Nat} : ¬ CellOwns (cs.map LV.cv) cur j b := by
 rintro ⟨x, hx, ho⟩
 simp only [List.getElem?_map, Option.map_eq_some_iff] at hx
 obtain ⟨c, _, rfl⟩ := hx
 simp [Owns] at ho
theorem c_alloc {e : TypeId} (ho : o.op = .alloc e) (R : Rel G L s μ a.tmps w) (hd : ∀ d, o.dst = some d → d < a.tmps.size) (hk : KOK L G w s μ a o.dst k r K)
  (hop : opt (zeroCells P e) (fun cs => k (allocV h.cell (stripSlots h.take s).lam.length e cs.length) { stripSlots h.take s with lam := (stripSlots h.take s).lam ++ [.cells (cs.map .cv)] } μ) = some r) : o.wp P a w K Q := by
 obtain ⟨cs, h1, hop⟩ := opt_some.1 hop
 obtain ⟨R1, E1, _⟩ := strips_ext R h.take
 obtain ⟨z, i, hi, hz, hrun, hl⟩ := zeroCells_run (P := P) (G := G) (w := w) h1
 obtain ⟨G1, R2, E2⟩ := newLocal_done (o := o) (kk := 0) (e := e) R1 E1 hd (unfrozen0 z.cells) (ob := .cells (cs.map .cv)) (.inl ⟨_, rfl, VRL_cells hl⟩)
  (fun cs' j b he hc => by injection he with he; subst he; exact absurd hc cellOwns_cv) (allocV_new (by have := VRL_len hl; simpa using this.symm)) (fun b hb => by cases h.cell <;> simp [allocV, Owns] at hb)
 refine wp_of_value ?_ (hk _ _ μ _ _ G1 hop R2 E2)
 simp only [execOp, ho]
 refine run_v ?_
 simp [Instr.alloc, hrun, newVar, newRow]
theorem LV_cells_rel {x : LV} {v : Value} {nl : Nat} {cs : List LV} (h : x.cells = some cs) (hv : LVR G w L nl x v) :
  cs.length = v.cells.size ∧ (∀ j y, cs[j]? = some y → LVR G w L nl y (v.cells.getD j undef)) ∧ (∀ u ∈ v.cells.toList, u.oneCell' = true) ∧
  (∀ j b, CellOwns cs v.cells j b → j = 0 ∧ Owns x v b) := by
 have one : ∀ (y : LV), y = x → cs = [y] → v.oneCell' = true → cs.length = v.cells.size ∧ (∀ j y, cs[j]? = some y → LVR G w L nl y (v.cells.getD j undef)) ∧ (∀ u ∈ v.cells.toList, u.oneCell' = true) ∧
  (∀ j b, CellOwns cs v.cells j b → j = 0 ∧ Owns x v b) := by
  rintro y rfl rfl h1
  rw [one_cells h1]
  refine ⟨rfl, fun j z hz => ?_, by simpa using h1, ?_⟩
  ·cases j with
   | zero => simp only [List.getElem?_cons_zero, Option.some.injEq] at hz; subst hz; exact hv
   | succ j => simp at hz
  ·rintro j b ⟨z, hz, ho⟩
   cases j with
   | zero => simp only [List.getElem?_cons_zero, Option.some.injEq] at hz; subst hz; exact ⟨rfl, ho⟩
   | succ j => simp at hz
 unfold LV.cells at h
 split at h
 ·split at h <;> simp only [Option.some.injEq, reduceCtorEq] at h
  rename_i hs
  subst h
  simp only [LVR] at hv
  obtain ⟨hl, h1⟩ := solid_cells hs hv
  refine ⟨by have := VRL_len hl; simpa using this, (VRL_cells hl).2, h1, fun j b hc => absurd hc cellOwns_cv⟩
 ·simp at h
 ·simp only [Option.some.injEq] at h
  rename_i n1 n2
  refine one x rfl h.symm ?_
  cases x <;> simp only [LVR] at hv
  ·exact absurd rfl (n1 _)
  ·rcases hv with ⟨_, rfl⟩ | ⟨_, _, _, _, _, rfl, _⟩ <;> rfl
  ·obtain ⟨_, rfl⟩ := hv; rfl
  ·obtain ⟨_, _, _, _, _, rfl, _⟩ := hv; rfl
  ·obtain ⟨_, rfl, _⟩ := hv; rfl
  ·exact absurd rfl (n2 _)
  ·obtain ⟨_, rfl⟩ := hv; rfl
  ·obtain ⟨_, rfl, _⟩ := hv; rfl
theorem c_box {e : TypeId} {x : Operand} (ho : o.op = .box e x) (R : Rel G L s μ a.tmps w) (hd : ∀ d, o.dst = some d → d < a.tmps.size) (hk : KOK L G w s μ a o.dst k r K)
  (hop : opt (evA h s.fr x).cells (fun cs => k (.loc (stripSlots h.take s).lam.length 0) { stripSlots h.take s with lam := (stripSlots h.take s).lam ++ [.cells cs] } μ) = some r) : o.wp P a w K Q := by
 obtain ⟨cs, h1, hop⟩ := opt_some.1 hop
 obtain ⟨R1, E1, hO⟩ := strips_ext R h.take
 have hl := stripSlots_lam h.take s
 obtain ⟨hv, hown⟩ := eval_rel R h x
 obtain ⟨h2, h3, h4, h5⟩ := LV_cells_rel h1 hv
 obtain ⟨G1, R2, E2⟩ := newLocal_done (o := o) (kk := 0) (e := e) R1 E1 hd (unfrozen0 (a.eval x).cells) (ob := .cells cs) (.inl ⟨_, rfl, by omega, by rw [hl.1]; exact h3⟩)
  (fun cs' j b he hc => by
   injection he with he
   subst he
   obtain ⟨hj, ho'⟩ := h5 j b hc
   obtain ⟨t, ht, hot⟩ := hown b ho'
   refine ⟨⟨fun l hl' => ?_, fun lev i hlv => ?_, fun j' hc' => by rw [(h5 j' b hc').1, hj]⟩, .inl (.inl ⟨.fr t, hot⟩)⟩
   ·obtain ⟨a1, a2⟩ := hO l b hl'
    exact a1 t ht (R.own l (.fr t) b a2 hot)
   ·rw [hl.1] at hlv
    exact R.apart (.fr t) b lev i hot hlv) loc_new (fun b hb => by simp [Owns] at hb)
 refine wp_of_value ?_ (hk _ _ μ _ _ G1 hop R2 E2)
 simp only [execOp, ho]
 refine run_v ?_
 simp [Instr.box, newVar, newRow]
end
end Go.Abs

set_option linter.unusedVariables false
set_option linter.unusedSimpArgs false
namespace Go.Abs
open Go
section
variable {P : Program} {ρ : Rho} {α : Type} {L : Nat} {G : Gh} {w : World} {s : S} {μ : Mu} {a : Act} {o : Oper} {h : OpHint} {k : LV → S → Mu → Option α} {p : CV → S → Mu → Option α} {r : α} {K : Act → World → Prop} {Q : Exit → Act → World → Prop}
theorem newBlock_done {G0 : Gh} {w0 : World} {T0 : Nat → Prop} (R : Rel G L s μ a.tmps w) (E : Ext L T0 G0 w0 G w (TouchS G w s μ a.tmps)) (hd : ∀ d, o.dst = some d → d < a.tmps.size)
  {ob : Obj} {n : Nat} {v : LV} {cv : Value} (hv : Le G w (G.setO w.heap.size n) (w.alloc ob) → LVR (G.setO w.heap.size n) (w.alloc ob) L s.lam.length v cv) (ho : ∀ b, Owns v cv b → b = w.heap.size) :
  ∃ G1, Rel G1 L (s.put o.dst v) μ (a.put o.dst cv).tmps (w.alloc ob) ∧ Ext L T0 G0 w0 G1 (w.alloc ob) (TouchS G1 (w.alloc ob) (s.put o.dst v) μ (a.put o.dst cv).tmps) := by
 obtain ⟨R1, hO⟩ := R.alloc ob n
 have hT : ∀ b, TouchS (G.setO w.heap.size n) (w.alloc ob) s μ a.tmps b → TouchS G w s μ a.tmps b := by
  intro b hb
  rcases hb with ⟨l, hb⟩ | hb
  ·exact .inl ⟨l, hO l b hb⟩
  ·exact .inr hb
 have E1 : Ext L (TouchS G w s μ a.tmps) G w (G.setO w.heap.size n) (w.alloc ob) (TouchS (G.setO w.heap.size n) (w.alloc ob) s μ a.tmps) := Ext.alloc ob n fun b hb => .inl (hT b hb)
 obtain ⟨R2, E2⟩ := step_done (dst := o.dst) (v := v) (cv := cv) R1 (E.trans E1) (hv (Le_alloc ob n)) (fun b hb => by
  have hb' := ho b hb
  subst hb'
  refine ⟨fun l hl => ?_, fun lev i hl e => ?_, .inr E.size⟩
  ·have := R.touch_lt (.inl ⟨l, hO l _ hl⟩)
   omega
  ·have := R.touch_lt (.inr ⟨lev, i, hl, e⟩)
   omega) hd
 exact ⟨_, R2, E2⟩
theorem setRange_app {α : Type} : ∀ (l pre mid post : List α), mid.length = l.length → setRange (pre ++ mid ++ post) pre.length l = pre ++ l ++ post
 | [], pre, mid, post, h => by
  have : mid = [] := List.eq_nil_of_length_eq_zero (by simpa using h)
  subst this; rfl
 | x :: l, pre, mid, post, h => by
  cases mid with
  | nil => simp at h
  | cons m mid =>
   simp only [setRange]
   have e : (pre ++ m :: mid ++ post).set pre.length x = (pre ++ [x]) ++ mid ++ post := by simp
   rw [e]
   have := setRange_app l (pre ++ [x]) mid post (by simpa using h)
   simp only [List.length_append, List.length_cons, List.length_nil] at this
   rw [this]; simp
theorem litA_fill {sz : Nat} : ∀ {ps : List (Nat × CV)} {n : Nat} {xs : List CV}, litA sz n ps = some xs → ∀ pre : List CV, pre.length = n * sz →
  fillA (fun i => some (i * sz, sz)) (pre ++ List.replicate (xs.length * sz) .undef) ps = some (pre ++ xs.flatMap CV.cells) ∧ ∀ x ∈ xs, x.cells.length = sz
 | [], n, xs, h, pre, hp => by simp only [litA, Option.some.injEq] at h; subst h; simp [fillA]
 | (i, c) :: ps, n, xs, h, pre, hp => by
  simp only [litA] at h
  split at h <;> try (simp at h; done)
  rename_i hc
  simp only [Bool.and_eq_true] at hc
  have hi := Nat.eq_of_beq_eq_true hc.1
  have hl := Nat.eq_of_beq_eq_true hc.2
  obtain ⟨ys, h1, h2⟩ := opt_some.1 h
  simp only [Option.some.injEq] at h2
  subst h2
  subst hi
  obtain ⟨ih1, ih2⟩ := litA_fill h1 (pre ++ c.cells) (by rw [List.length_append, hp, hl, Nat.add_mul]; omega)
  refine ⟨?_, fun x hx => ?_⟩
  ·simp only [fillA]
   have hlen : (pre ++ List.replicate ((c :: ys).length * sz) CV.undef).length = i * sz + (ys.length + 1) * sz := by simp [hp]
   have hle : Nat.ble (i * sz + sz) (pre ++ List.replicate ((c :: ys).length * sz) CV.undef).length = true := by
    rw [hlen]; exact Nat.ble_eq_true_of_le (by rw [Nat.add_mul ys.length]; omega)
   have hb : (Nat.beq c.cells.length sz && Nat.ble (i * sz + sz) (pre ++ List.replicate ((c :: ys).length * sz) CV.undef).length) = true := by
    rw [hle, hl]; simp [Nat.beq_refl]
   rw [hb]
   have e : pre ++ List.replicate ((c :: ys).length * sz) CV.undef = pre ++ List.replicate sz CV.undef ++ List.replicate (ys.length * sz) CV.undef := by
    rw [List.append_assoc, List.replicate_append_replicate]
    congr 2
    simp only [List.length_cons, Nat.add_mul]; omega
   have := setRange_app c.cells pre (List.replicate sz CV.undef) (List.replicate (ys.length * sz) CV.undef) (by simp [hl])
   rw [hp, ← e] at this
   simp only [List.append_assoc] at ih1
   simp only [this, List.flatMap_cons, List.append_assoc]
   exact ih1
  ·rcases List.mem_cons.1 hx with rfl | hx
   ·exact hl
   ·exact ih2 x hx
theorem VRL_undef : ∀ (vs : List Value), VRL G w (List.replicate vs.length .undef) vs
 | [] => by simp [VRL]
 | v :: r => by simp only [List.length_cons, List.replicate_succ, VRL]; exact ⟨v, r, rfl, by simp [VR], VRL_undef r⟩
theorem buildSlice_run {t e : TypeId} {sz len : Nat} {parts : Array (Nat × Operand)} {ps : List (Nat × CV)} {xs : List CV} {zc : List CV} (R : Rel G L s μ a.tmps w) (hu : P.underlying t = some (.slice e)) (hsz : sizeT P e = some sz)
  (hz : zeroCells P e = some zc) (hp : partsCV (evA h s.fr) parts.toList = some ps) (hx : litA sz 0 ps = some xs) (hlen : xs.length = len) (hsm : len * sz ≤ 10000) :
  ∃ cur : Array Value, (Instr.buildSlice t len (parts.map fun q => (q.1, a.eval q.2))).run P w = .ok (.slice (some ⟨w.heap.size, 0, none⟩) len len) (w.alloc (.cells cur e)) ∧
   VRL G w (xs.flatMap CV.cells) cur.toList ∧ cur.size = len * sz ∧ ∀ x ∈ xs, x.cells.length = sz := by
 obtain ⟨z, i, hi, hzi, hzr, hzl⟩ := zeroCells_run (P := P) (G := G) (w := w) hz
 have hpr := partsCV_rel R h hp
 have hparts : (parts.map fun q => (q.1, a.eval q.2)).toList = parts.toList.map fun q => (q.1, a.eval q.2) := by simp
 obtain ⟨hf, hall⟩ := litA_fill hx [] (by simp)
 simp only [List.nil_append] at hf
 have hfill : ∀ zz : Array Value, ∃ b : Array Value, Instr.fill (fun i => some (i * sz, sz)) ((Array.range (len * sz)).map (zz[· % zz.size]!)) (parts.toList.map fun q => (q.1, a.eval q.2)) = some b ∧ VRL G w (xs.flatMap CV.cells) b.toList ∧ b.size = len * sz := by
  intro zz
  have hvl : VRL G w (List.replicate (xs.length * sz) CV.undef) ((Array.range (len * sz)).map (zz[· % zz.size]!)).toList := by
   have := VRL_undef (G := G) (w := w) ((Array.range (len * sz)).map (zz[· % zz.size]!)).toList
   rw [show ((Array.range (len * sz)).map (zz[· % zz.size]!)).toList.length = xs.length * sz by simp [hlen]] at this
   exact this
  obtain ⟨b, hb, hr, hbs⟩ := fill_run hpr hvl hf
  exact ⟨b, hb, hr, by rw [hbs]; simp⟩
 have h24 : ¬ len * sz > 2 ^ 24 := by omega
 by_cases h0 : len * sz = 0
 ·obtain ⟨b, hb, hr, hbs⟩ := hfill #[]
  refine ⟨b, ?_, hr, hbs, hall⟩
  simp only [Instr.buildSlice, Sem.run_bind, run_underlying hu, Result.andThen_ok, sizeT_run hsz, if_neg h24, if_pos h0, Sem.run_pure, hparts, hb, newRow, run_newObj]
  rfl
 ·obtain ⟨b, hb, hr, hbs⟩ := hfill z.cells
  refine ⟨b, ?_, hr, hbs, hall⟩
  simp only [Instr.buildSlice, Sem.run_bind, run_underlying hu, Result.andThen_ok, sizeT_run hsz, if_neg h24, if_neg h0, hzr, Sem.run_pure, hparts, hb, newRow, run_newObj]
  rfl
theorem c_buildSlice {t e : TypeId} {len sz : Nat} {parts : Array (Nat × Operand)} {ps : List (Nat × CV)} {xs zc : List CV} (ho : o.op = .buildSlice t len parts) (R : Rel G L s μ a.tmps w) (hd : ∀ d, o.dst = some d → d < a.tmps.size) (hk : KOK L G w s μ a o.dst k r K)
  (hu : P.underlying t = some (.slice e)) (hsz : sizeT P e = some sz) (hby : bytesOK P e = true) (hz : zeroCells P e = some zc) (hp : partsCV (evA h s.fr) parts.toList = some ps) (hx : litA sz 0 ps = some xs) (hlen : xs.length = len) (hsm : len * sz ≤ 10000) (hbt : (Nat.beq e 5 || headOK xs) = true)
  (hop : (match h.arr with
   | false => k (.osl xs) (stripSlots h.take s) μ
   | true => k (.lsl (stripSlots h.take s).lam.length 0 len) { stripSlots h.take s with lam := (stripSlots h.take s).lam ++ [.arr sz (xs.flatMap CV.cells)] } μ) = some r) : o.wp P a w K Q := by
 obtain ⟨R1, E1, hO⟩ := strips_ext R h.take
 obtain ⟨cur, hrun, hl, hcs, hall⟩ := buildSlice_run R hu hsz hz hp hx hlen hsm
 have hrun' : (execOp a.eval o).run P w = .ok (.value (.slice (some ⟨w.heap.size, 0, none⟩) len len)) (w.alloc (.cells cur e)) := by
  simp only [execOp, ho]
  exact run_v hrun
 have hsz1 : 1 ≤ sz := by
  unfold bytesOK at hby
  unfold sizeT at hsz
  split at hby <;> try (simp at hby; done)
  rename_i i hi
  rw [hi] at hsz
  simp only [Option.some.injEq, Bool.and_eq_true] at hsz hby
  have := Nat.le_of_ble_eq_true hby.2
  omega
 have hlm : len ≤ 10000 := Nat.le_trans (Nat.le_mul_of_pos_right len hsz1) hsm
 split at hop
 ·obtain ⟨G1, R2, E2⟩ := newBlock_done (o := o) (n := len * sz) (ob := .cells cur e) (v := .osl xs) (cv := .slice (some ⟨w.heap.size, 0, none⟩) len len) R1 E1 hd (fun hle => by
   simp only [LVR]
   refine .inr ⟨w.heap.size, len, cur, e, sz, by rw [hlen], heap_alloc_new w _, by omega, by unfold maxLen; omega, by omega, hall, fun h0 => by subst h0; simpa using hlen.symm, ?_, by rw [setO_same, hlen], clause_of hbt⟩
   obtain ⟨hlen2, hg⟩ := VRL_get hl
   refine EL_of (vs := cur.toList) hall (VRL_of_get hlen2 fun j c v hc hv => ?_) fun j v hv => ?_
   ·obtain ⟨v', hv', hr⟩ := hg j c hc
    rw [hv] at hv'
    injection hv' with hv'
    subst hv'
    exact VR_mono hle c v hr
   ·have hj : j < cur.size := by have := (List.getElem?_eq_some_iff.1 hv).1; simpa using this
    rw [Nat.zero_add, setO_same]
    refine ⟨?_, by omega⟩
    rw [cell_of_heap (heap_alloc_new w (.cells cur e)) hj]
    rw [Array.getElem?_toList] at hv
    simp [Array.getD_eq_getD_getElem?, hv]) (fun b hb => by simpa [Owns] using hb.symm)
  exact wp_of_value hrun' (hk _ _ μ _ _ G1 hop R2 E2)
 ·obtain ⟨G1, R2, E2⟩ := newLocal_done (o := o) (kk := sz) (e := e) R1 E1 hd (unfrozen0 cur) (ob := .arr sz (xs.flatMap CV.cells)) (.inr ⟨_, rfl, by have := VRL_len hl; simp at this ⊢; omega, fun j x hx => by
    obtain ⟨v, hv, hr⟩ := (VRL_get hl).2 j x hx
    have : cur.getD j undef = v := by
     rw [Array.getElem?_toList] at hv
     simp [Array.getD_eq_getD_getElem?, hv]
    rw [this]; exact hr⟩)
   (fun cs' j b he hc => by cases he) (v := .lsl (stripSlots h.take s).lam.length 0 len) (cv := .slice (some ⟨w.heap.size, 0, none⟩) len len) (fun G1 w1 hG hw => by
    subst hG; subst hw
    simp only [LVR]
    refine ⟨by omega, len, cur, e, (0, 0), by simp [Gh.setL], Nat.le_refl _, by unfold maxLen; omega, ?_, ?_⟩
    ·simp only [Gh.setL, and_self, if_true]; exact heap_alloc_new w _
    ·simp only [Gh.setL, and_self, if_true]; omega) (fun b hb => by simp [Owns] at hb)
  exact wp_of_value hrun' (hk _ _ μ _ _ G1 hop R2 E2)
theorem freeze_new (c : Array Value) (e : TypeId) : ((w.alloc (.cells c e)).freeze ⟨w.heap.size, c.size, none⟩ 1) = w.alloc (.cells c e (c.size, c.size + 1)) := by
 simp only [World.freeze, World.alloc, Nat.one_ne_zero, if_false]
 congr 1
 apply Array.ext
 ·simp
 ·intro i h1 h2
  simp only [Array.getElem_modify]
  by_cases hi : w.heap.size = i
  ·subst hi
   simp
  ·simp only [hi, if_false]
   have : i < w.heap.size := by simp at h2; omega
   simp [Array.getElem_push, this]
def byteVals (l : List UInt8) : List Value := l.map fun b => .int .u8 (b.toNat : Int)
def byteRow (l : List UInt8) (n : Nat) : Array Value := (byteVals l ++ List.replicate n (Value.int .u8 0)).toArray
theorem byteRow_size (l : List UInt8) (n : Nat) : (byteRow l n).size = l.length + n := by simp [byteRow, byteVals]
theorem strBytes_run {src dst e : TypeId} {l : List UInt8} (hu : P.underlying dst = some (.slice e)) (hue : P.underlying e = some (.int .u8)) (hs : P.underlying src = some .string) (hl : l.length ≤ 1099511627776) :
  ∃ (cap : Nat) (cur : Array Value), (convert src dst (.string ⟨⟨l⟩⟩)).run P w = .ok (.slice (some ⟨w.heap.size, 0, none⟩) l.length cap) (w.drew.alloc (.cells cur e (cur.size, cur.size + 1))) ∧
   l.length ≤ cap ∧ cap ≤ maxLen ∧ cur.size = cap ∧ ∀ (j : Nat) b, l[j]? = some b → cur.getD j undef = .int .u8 (b.toNat : Int) := by
 have hge := grownCap_ge w l.length 0 e
 have hle := grownCap_le_maxLen w l.length 0 e (by unfold maxLen; omega)
 refine ⟨grownCap w l.length 0 e, byteRow l (grownCap w l.length 0 e - l.length), ?_, hge, hle, by rw [byteRow_size]; omega, ?_⟩
 ·simp only [convert, Sem.run_bind, run_underlying hu, run_underlying hue, run_underlying hs, Result.andThen_ok, Conv.stringToBytes, run_choose, Question.forced, Bool.false_eq_true, if_false]
  have hsz : (⟨⟨l⟩⟩ : ByteArray).size = l.length := rfl
  rw [hsz]
  have hg : Question.cut (Question.appendCap l.length 0 e) (w.tape w.drawn (Question.appendCap l.length 0 e)) = grownCap w l.length 0 e := rfl
  rw [hg]
  have harr : (Array.map (fun (b : UInt8) => Value.int .u8 (b.toNat : Int)) (⟨⟨l⟩⟩ : ByteArray).data ++ Array.replicate (grownCap w l.length 0 e - l.length) (Value.int .u8 0)) =
    byteRow l (grownCap w l.length 0 e - l.length) := by
   apply Array.ext'
   simp [byteRow, byteVals]
  simp only [harr, newRow, Sem.run_bind, run_newObj, Result.andThen_ok, Sem.run_pure, markStringish, run_shape, World.alloc_eq, World.drew_eq, World.size_drew]
  have hsh : (w.drew.alloc (.cells (byteRow l (grownCap w l.length 0 e - l.length)) e)).shape? w.heap.size = some (e, (byteRow l (grownCap w l.length 0 e - l.length)).size) := by
   simp only [World.shape?]
   rw [show w.heap.size = w.drew.heap.size from rfl, heap_alloc_new]
  simp only [hsh, Sem.run_bind, run_freeze, Result.andThen_ok, Sem.run_pure]
  have := freeze_new (w := w.drew) (byteRow l (grownCap w l.length 0 e - l.length)) e
  rw [show w.drew.heap.size = w.heap.size from rfl] at this
  rw [this]
 ·intro j b hb
  have hj : j < l.length := (List.getElem?_eq_some_iff.1 hb).1
  have hj' : (byteVals l)[j]? = some (Value.int .u8 (b.toNat : Int)) := by simp [byteVals, hb]
  have hjl : j < (byteVals l).length := by simpa [byteVals] using hj
  simp only [byteRow, Array.getD_eq_getD_getElem?, List.getElem?_toArray, List.getElem?_append_left hjl, hj', Option.getD_some]
theorem byteFlat : ∀ l : List UInt8, (l.map fun (b : UInt8) => CV.v (.int .u8 (b.toNat : Int))).flatMap CV.cells = l.map fun (b : UInt8) => CV.v (.int .u8 (b.toNat : Int))
 | [] => rfl
 | b :: l => by simp only [List.map_cons, List.flatMap_cons, byteFlat l, CV.cells]; rfl
theorem c_strBytes {src dst e : TypeId} {x : Operand} {l : List UInt8} (ho : o.op = .convert src dst x) (R : Rel G L s μ a.tmps w) (hd : ∀ d, o.dst = some d → d < a.tmps.size) (hk : KOK L G w s μ a o.dst k r K)
  (hu : P.underlying dst = some (.slice e)) (hue : P.underlying e = some (.int .u8)) (hs : P.underlying src = some .string) (he : evA h s.fr x = LV.str l) (hsm : small l.length = true)
  (hop : (match h.arr with
    | true => k (.lsl (stripSlots h.take s).lam.length 0 l.length) { stripSlots h.take s with lam := (stripSlots h.take s).lam ++ [.arr 1 (l.map fun b => .v (.int .u8 (b.toNat : Int)))] } μ
    | false => k (.cv (.sl (l.map fun b => .v (.int .u8 (b.toNat : Int))))) (stripSlots h.take s) μ) = some r) : o.wp P a w K Q := by
 obtain ⟨R1, E1, hO⟩ := strips_ext R h.take
 have hv := eval_cv R he
 simp only [VR] at hv
 simp only [small, decide_eq_true_eq] at hsm
 obtain ⟨cap, cur, hrun, h1, h2, h3, h4⟩ := strBytes_run (P := P) (w := w) hu hue hs hsm
 have hrun' : (execOp a.eval o).run P w = .ok (.value (.slice (some ⟨w.heap.size, 0, none⟩) l.length cap)) (w.drew.alloc (.cells cur e (cur.size, cur.size + 1))) := by
  simp only [execOp, ho, hv]
  exact run_v hrun
 obtain ⟨R2, hO2⟩ := R1.drew
 have E2 : Ext L (TouchS G w s μ a.tmps) G w G w.drew (TouchS G w.drew (stripSlots h.take s) μ a.tmps) := by
  refine E1.drew.weaken (fun _ h => h) fun b hb => ?_
  rcases hb with ⟨l, hb⟩ | hb
  ·exact .inl ⟨l, hO2 l b hb⟩
  ·exact .inr hb
 have hfz : Unfrozen cur (cur.size, cur.size + 1) := fun j hj h => by simp at h; omega
 have hcells : ∀ (j : Nat) c, (l.map fun (b : UInt8) => CV.v (.int .u8 (b.toNat : Int)))[j]? = some c → ∃ b, l[j]? = some b ∧ c = .v (.int .u8 (b.toNat : Int)) := by
  intro j c hc
  simp only [List.getElem?_map, Option.map_eq_some_iff] at hc
  obtain ⟨b, hb, rfl⟩ := hc
  exact ⟨b, hb, rfl⟩
 split at hop
 ·obtain ⟨G1, R3, E3⟩ := newLocal_done (o := o) (kk := 1) (e := e) R2 E2 hd hfz (ob := .arr 1 (l.map fun b => .v (.int .u8 (b.toNat : Int)))) (.inr ⟨_, rfl, by simp; omega, fun j x hx => by
    obtain ⟨b, hb, rfl⟩ := hcells j x hx
    simp only [VR]
    exact h4 j b hb⟩)
   (fun cs' j b he hc => by cases he) (v := .lsl (stripSlots h.take s).lam.length 0 l.length) (cv := .slice (some ⟨w.heap.size, 0, none⟩) l.length cap) (fun G1 w1 hG hw => by
    subst hG; subst hw
    simp only [LVR]
    refine ⟨by omega, cap, cur, e, (cur.size, cur.size + 1), by simp [Gh.setL], h1, h2, ?_, ?_⟩
    ·simp only [Gh.setL, and_self, if_true]; exact heap_alloc_new w.drew _
    ·simp only [Gh.setL, and_self, if_true]; omega) (fun b hb => by simp [Owns] at hb)
  exact wp_of_value hrun' (hk _ _ μ _ _ G1 hop R3 E3)
 ·obtain ⟨G1, R3, E3⟩ := newBlock_done (o := o) (n := cur.size) (ob := .cells cur e (cur.size, cur.size + 1)) (v := .cv (.sl (l.map fun b => .v (.int .u8 (b.toNat : Int))))) (cv := .slice (some ⟨w.heap.size, 0, none⟩) l.length cap) R2 E2 hd (fun hle => by
   simp only [LVR, VR]
   refine ⟨_, l.length, cap, rfl, by simp, h1, .inr ⟨w.heap.size, 0, 1, rfl, fun x hx => ?_, ?_⟩⟩
   ·obtain ⟨b, _, rfl⟩ := List.mem_map.1 hx; rfl
   ·have hflat := byteFlat l
    refine EL_of (vs := (List.range l.length).map fun j => cur.getD j undef) (fun x hx => by obtain ⟨b, _, rfl⟩ := List.mem_map.1 hx; rfl) ?_ fun j v hv => ?_
    ·rw [hflat]
     refine VRL_of_get (by simp) fun j c v hc hv => ?_
     obtain ⟨b, hb, rfl⟩ := hcells j c hc
     have hj : j < l.length := (List.getElem?_eq_some_iff.1 hb).1
     simp only [List.getElem?_map, List.getElem?_range hj, Option.map_some, Option.some.injEq] at hv
     simp only [VR]
     rw [← hv]; exact h4 j b hb
    ·have hj : j < l.length := by have := (List.getElem?_eq_some_iff.1 hv).1; simpa using this
     simp only [List.getElem?_map, List.getElem?_range hj, Option.map_some, Option.some.injEq] at hv
     rw [Nat.zero_add, ← hv]
     refine ⟨cell_of_heap (heap_alloc_new w.drew _) (by omega), ?_⟩
     rw [show w.heap.size = w.drew.heap.size from rfl, setO_same]; omega) (fun b hb => by simp [Owns] at hb)
  exact wp_of_value hrun' (hk _ _ μ _ _ G1 hop R3 E3)
end
end Go.Abs

set_option linter.unusedVariables false
set_option linter.unusedSimpArgs false
namespace Go.Abs
open Go
def Gh.cut (G : Gh) (m : Nat) : Gh := { G with n := fun l => if l < m then G.n l else 0 }
section
variable {G : Gh} {w : World} {lev m : Nat}
theorem belowL_cons {n : Nat} {c : CV} {r : List CV} (h : belowL n (c :: r) = true) : below n c = true ∧ belowL n r = true := by
 simp only [belowL] at h
 split at h
 ·exact ⟨by assumption, h⟩
 ·simp at h
mutual
theorem VR_cut : ∀ (c : CV) (v : Value), below m c = true → VR G w c v → VR (G.cut m) w c v
 | .undef, v, _, _ => by simp [VR]
 | .v x, v, _, hv => by simpa [VR] using hv
 | .agg cs, v, hb, hv => by
  simp only [VR, below] at hv hb ⊢
  obtain ⟨vs, e, hl⟩ := hv
  exact ⟨vs, e, VRL_cut cs _ hb hl⟩
 | .sl xs, v, hb, hv => by
  simp only [VR, below] at hv hb ⊢
  obtain ⟨A, len, cap, e, h1, h2, h3⟩ := hv
  refine ⟨A, len, cap, e, h1, h2, h3.imp id ?_⟩
  rintro ⟨b, off, s, e1, hs, hl⟩
  exact ⟨b, off, s, e1, hs, EL_cut b s off xs hb hl⟩
 | .view cs, v, hb, hv => by
  simp only [VR, below] at hv hb ⊢
  obtain ⟨b, off, e, hl⟩ := hv
  exact ⟨b, off, e, CL_cut b off cs hb hl⟩
 | .ref l i off, v, hb, hv => by
  simp only [VR, below, decide_eq_true_eq] at hv hb ⊢
  exact ⟨by simp only [Gh.cut]; rw [if_pos hb]; exact hv.1, hv.2⟩
 | .msl l i off len, v, hb, hv => by
  simp only [VR, below, decide_eq_true_eq] at hv hb ⊢
  exact ⟨by simp only [Gh.cut]; rw [if_pos hb]; exact hv.1, hv.2⟩
 | .mview ks vs, v, hb, hv => by
  simp only [VR, below] at hv hb ⊢
  obtain ⟨r, es, clk, e, h1, h2, h3, h4⟩ := hv
  exact ⟨r, es, clk, e, h1, h2, h3, VRL_cut vs _ hb h4⟩
 | .mref l i, v, hb, hv => by
  simp only [VR, below, decide_eq_true_eq] at hv hb ⊢
  exact ⟨by simp only [Gh.cut]; rw [if_pos hb]; exact hv.1, hv.2⟩
 | .tref l i t n, v, hb, hv => by
  simp only [VR, below, decide_eq_true_eq] at hv hb ⊢
  exact ⟨by simp only [Gh.cut]; rw [if_pos hb]; exact hv.1, hv.2⟩
 | .clo f caps, v, hb, hv => by
  simp only [VR, below] at hv hb ⊢
  obtain ⟨vs, e, hl⟩ := hv
  exact ⟨vs, e, VRL_cut caps _ hb hl⟩
 | .iface t x, v, hb, hv => by
  simp only [VR, below] at hv hb ⊢
  obtain ⟨u, e, hl⟩ := hv
  exact ⟨u, e, VR_cut x u hb hl⟩
theorem VRL_cut : ∀ (cs : List CV) (vs : List Value), belowL m cs = true → VRL G w cs vs → VRL (G.cut m) w cs vs
 | [], vs, _, hv => by simpa [VRL] using hv
 | c :: cs, vs, hb, hv => by
  simp only [VRL] at hv ⊢
  obtain ⟨v, r, e, h1, h2⟩ := hv
  exact ⟨v, r, e, VR_cut c v (belowL_cons hb).1 h1, VRL_cut cs r (belowL_cons hb).2 h2⟩
theorem CL_cut (b : Nat) : ∀ (off : Nat) (cs : List CV), belowL m cs = true → CL G w b off cs → CL (G.cut m) w b off cs
 | _, [], _, _ => by simp [CL]
 | off, c :: cs, hb, hv => by
  simp only [CL] at hv ⊢
  obtain ⟨⟨v, hc, ho, h1⟩, h2⟩ := hv
  exact ⟨⟨v, hc, ho, VR_cut c v (belowL_cons hb).1 h1⟩, CL_cut _ (off + 1) cs (belowL_cons hb).2 h2⟩
theorem EL_cut (b s : Nat) : ∀ (off : Nat) (cs : List CV), belowL m cs = true → EL G w b s off cs → EL (G.cut m) w b s off cs
 | _, [], _, _ => by simp [EL]
 | off, .agg cs :: r, hb, hv => by
  simp only [EL] at hv ⊢
  exact ⟨CL_cut b off cs (by simpa [below] using (belowL_cons hb).1) hv.1, EL_cut b s (off + s) r (belowL_cons hb).2 hv.2⟩
 | off, .undef :: r, hb, hv => by
  simp only [EL] at hv ⊢
  obtain ⟨⟨v, hc, ho, h1⟩, h2⟩ := hv
  exact ⟨⟨v, hc, ho, by simp [VR]⟩, EL_cut _ s (off + s) r (belowL_cons hb).2 h2⟩
 | off, .v x :: r, hb, hv => by
  simp only [EL] at hv ⊢
  obtain ⟨⟨v, hc, ho, h1⟩, h2⟩ := hv
  exact ⟨⟨v, hc, ho, VR_cut (.v x) v (belowL_cons hb).1 h1⟩, EL_cut _ s (off + s) r (belowL_cons hb).2 h2⟩
 | off, .sl x :: r, hb, hv => by
  simp only [EL] at hv ⊢
  obtain ⟨⟨v, hc, ho, h1⟩, h2⟩ := hv
  exact ⟨⟨v, hc, ho, VR_cut (.sl x) v (belowL_cons hb).1 h1⟩, EL_cut _ s (off + s) r (belowL_cons hb).2 h2⟩
 | off, .view x :: r, hb, hv => by
  simp only [EL] at hv ⊢
  obtain ⟨⟨v, hc, ho, h1⟩, h2⟩ := hv
  exact ⟨⟨v, hc, ho, VR_cut (.view x) v (belowL_cons hb).1 h1⟩, EL_cut _ s (off + s) r (belowL_cons hb).2 h2⟩
 | off, .ref x y z :: r, hb, hv => by
  simp only [EL] at hv ⊢
  obtain ⟨⟨v, hc, ho, h1⟩, h2⟩ := hv
  exact ⟨⟨v, hc, ho, VR_cut (.ref x y z) v (belowL_cons hb).1 h1⟩, EL_cut _ s (off + s) r (belowL_cons hb).2 h2⟩
 | off, .msl x y z l :: r, hb, hv => by
  simp only [EL] at hv ⊢
  obtain ⟨⟨v, hc, ho, h1⟩, h2⟩ := hv
  exact ⟨⟨v, hc, ho, VR_cut (.msl x y z l) v (belowL_cons hb).1 h1⟩, EL_cut _ s (off + s) r (belowL_cons hb).2 h2⟩
 | off, .mview x y :: r, hb, hv => by
  simp only [EL] at hv ⊢
  obtain ⟨⟨v, hc, ho, h1⟩, h2⟩ := hv
  exact ⟨⟨v, hc, ho, VR_cut (.mview x y) v (belowL_cons hb).1 h1⟩, EL_cut _ s (off + s) r (belowL_cons hb).2 h2⟩
 | off, .mref x y :: r, hb, hv => by
  simp only [EL] at hv ⊢
  obtain ⟨⟨v, hc, ho, h1⟩, h2⟩ := hv
  exact ⟨⟨v, hc, ho, VR_cut (.mref x y) v (belowL_cons hb).1 h1⟩, EL_cut _ s (off + s) r (belowL_cons hb).2 h2⟩
 | off, .tref x y t n :: r, hb, hv => by
  simp only [EL] at hv ⊢
  obtain ⟨⟨v, hc, ho, h1⟩, h2⟩ := hv
  exact ⟨⟨v, hc, ho, VR_cut (.tref x y t n) v (belowL_cons hb).1 h1⟩, EL_cut _ s (off + s) r (belowL_cons hb).2 h2⟩
 | off, .clo f x :: r, hb, hv => by
  simp only [EL] at hv ⊢
  obtain ⟨⟨v, hc, ho, h1⟩, h2⟩ := hv
  exact ⟨⟨v, hc, ho, VR_cut (.clo f x) v (belowL_cons hb).1 h1⟩, EL_cut _ s (off + s) r (belowL_cons hb).2 h2⟩
 | off, .iface t x :: r, hb, hv => by
  simp only [EL] at hv ⊢
  obtain ⟨⟨v, hc, ho, h1⟩, h2⟩ := hv
  exact ⟨⟨v, hc, ho, VR_cut (.iface t x) v (belowL_cons hb).1 h1⟩, EL_cut _ s (off + s) r (belowL_cons hb).2 h2⟩
end
theorem below_eq_cut : G.below lev = G.cut (lev + 1) := by
 simp only [Gh.below, Gh.cut, Nat.lt_succ_iff]
theorem VR_below (c : CV) (v : Value) (hb : below (lev + 1) c = true) (h : VR G w c v) : VR (G.below lev) w c v := by
 rw [below_eq_cut]; exact VR_cut c v hb h
theorem EL_below (b s off : Nat) (cs : List CV) (hb : belowL (lev + 1) cs = true) (h : EL G w b s off cs) : EL (G.below lev) w b s off cs := by
 rw [below_eq_cut]; exact EL_cut b s off cs hb h
theorem Owned_cut {xs : List CV} {v : Value} (hb : belowL m xs = true) (h : Owned G w xs v) : Owned (G.cut m) w xs v := by
 rcases h with h | ⟨b, cap, cur, e, s, h1, h2, h3, h4, h5, h6, h7, h8, h9, h10⟩
 ·exact .inl h
 ·exact .inr ⟨b, cap, cur, e, s, h1, h2, h3, h4, h5, h6, h7, EL_cut b s 0 xs hb h8, h9, h10⟩
theorem Owned_below {xs : List CV} {v : Value} (hb : belowL (lev + 1) xs = true) (h : Owned G w xs v) : Owned (G.below lev) w xs v := by
 rcases h with h | ⟨b, cap, cur, e, s, h1, h2, h3, h4, h5, h6, h7, h8, h9, h10⟩
 ·exact .inl h
 ·exact .inr ⟨b, cap, cur, e, s, h1, h2, h3, h4, h5, h6, h7, EL_below b s 0 xs hb h8, h9, h10⟩
theorem LVR_below {L nl nl' : Nat} {x : LV} {v : Value} (hb : outerOK lev x = true) (h : LVR G w L nl x v) : LVR (G.below lev) w lev nl' x v := by
 cases x <;> simp only [outerOK, Bool.false_eq_true] at hb <;> simp only [LVR] at h ⊢
 ·exact VR_below _ _ hb h
 ·exact Owned_below hb h
end
section
variable {P : Program} {ρ : Rho} {α : Type} {L : Nat} {G : Gh} {w : World} {s : S} {μ : Mu} {a : Act} {o : Oper} {h : OpHint} {k : LV → S → Mu → Option α} {p : CV → S → Mu → Option α} {r : α} {K : Act → World → Prop} {Q : Exit → Act → World → Prop}
theorem run_u {x : Sem Unit} {w' : World} (h : x.run P w = .ok () w') : (do x; pure Next.skip : Sem Next).run P w = .ok .skip w' := by
 rw [Sem.run_bind, h]; rfl
theorem putAll_getD_at {cur : Array Value} {off : Nat} {vs : List Value} {j : Nat} (h : off + vs.length ≤ cur.size) (hj : j < vs.length) : (putAll cur off vs).getD (off + j) undef = vs.getD j undef := by
 have := putAll_at vs off cur j h hj
 simp only [Array.getD_eq_getD_getElem?, List.getD_eq_getElem?_getD, this]
theorem putAll_getD_out {cur : Array Value} {off : Nat} {vs : List Value} {j : Nat} (h : j < off ∨ off + vs.length ≤ j) : (putAll cur off vs).getD j undef = cur.getD j undef := by
 simp only [Array.getD_eq_getD_getElem?]
 rcases h with h | h
 ·rw [putAll_below vs off cur j h]
 ·rw [putAll_above vs off cur j h]
theorem solid_of_elem {n : Nat} {c : CV} (h : elemOK n c = true) : c.cells.length = n ∧ solid c = true := by
 simp only [elemOK, Bool.and_eq_true] at h
 exact ⟨Nat.eq_of_beq_eq_true h.1, h.2⟩
theorem Rel.writeOb {G0 : Gh} {w0 : World} {tm : Array Value} {T0 : Nat → Prop} {s1 : S} {μ1 : Mu} {lev i off : Nat} {ob o' : Ob} {v : LV} {cv : Value} {t : TypeId} (R : Rel G L s μ tm w)
  (E : Ext L T0 G0 w0 G w (TouchS G w s μ tm)) (hob : obAt (μ ++ [s.lam]) lev i = ob) (hw : obWrite P t ob off v = some o')
  (hv : (lev = L → LVR G w L s.lam.length v cv) ∧ (lev < L → LVR (G.below lev) w lev 0 v cv))
  (hown : ∀ b, Owns v cv b → (∀ l, ¬ OwnsAt G w s.fr tm (μ ++ [s.lam]) l b) ∧ (∀ lev i, isLive (obAt (μ ++ [s.lam]) lev i) → G.β lev i ≠ b) ∧ (T0 b ∨ w0.heap.size ≤ b))
  (hfr : s1.fr = s.fr) (hp : s1.pushed = s.pushed) (hlen : s1.lam.length = s.lam.length) (hμlen : μ1.length = μ.length) (hH : μ1 ++ [s1.lam] = muSet (μ ++ [s.lam]) lev i o') :
  ∃ w', (storeVar t ⟨G.β lev i, off, none⟩ cv).run P w = .ok () w' ∧ Rel G L s1 μ1 tm w' ∧ Ext L T0 G0 w0 G w' (TouchS G w' s1 μ1 tm) := by
 have hl : isLive (obAt (μ ++ [s.lam]) lev i) := by
  rw [hob]
  cases ob <;> first | trivial | simp [obWrite] at hw
 have hlvl : lev = L ∨ lev < L := by rcases live_cases R.lev hl with ⟨h1, _⟩ | ⟨h1, _⟩ <;> omega
 have hobr : (lev = L → ObR G w L s.lam.length (G.β lev i) (G.sz lev i) ob) ∧ (lev < L → ObR (G.below lev) w lev 0 (G.β lev i) (G.sz lev i) ob) := by
  rcases live_cases R.lev hl with ⟨h1, h2⟩ | ⟨rfl, h1, h2⟩
  ·refine ⟨fun e => by omega, fun _ => ?_⟩
   rw [← hob, h2]; exact R.mu lev i h1
  ·refine ⟨fun _ => ?_, fun e => by omega⟩
   rw [← hob, h2]; exact R.lam i
 have hblk : ∃ cur e fz, w.heap[G.β lev i]? = some (.cells cur e fz) ∧ Unfrozen cur fz ∧ G.O (G.β lev i) = 0 ∧ (∀ cs, ob = .cells cs → cs.length ≤ cur.size) ∧ (∀ k cs, ob = .arr k cs → k = G.sz lev i ∧ cs.length ≤ cur.size) := by
  rcases hlvl with e | e
  ·have := hobr.1 e
   cases ob with
   | dead => simp [obWrite] at hw
   | map ks vs => simp [obWrite] at hw
   | cells cs =>
    simp only [ObR] at this
    obtain ⟨cur, e, fz, h1, h2, h3, h4, _⟩ := this
    exact ⟨cur, e, fz, h1, h2, h3, fun _ hc => by injection hc with hc; subst hc; exact h4, fun _ _ hc => by cases hc⟩
   | arr kk cs =>
    simp only [ObR] at this
    obtain ⟨hk, cur, e, fz, h1, h2, h3, h4, _⟩ := this
    exact ⟨cur, e, fz, h1, h2, h3, fun _ hc => (by cases hc), fun _ _ hc => (by injection hc with hc hc'; subst hc; subst hc'; exact ⟨hk, h4⟩)⟩
  ·have := hobr.2 e
   cases ob with
   | dead => simp [obWrite] at hw
   | map ks vs => simp [obWrite] at hw
   | cells cs =>
    simp only [ObR] at this
    obtain ⟨cur, e, fz, h1, h2, h3, h4, _⟩ := this
    exact ⟨cur, e, fz, h1, h2, h3, fun _ hc => by injection hc with hc; subst hc; exact h4, fun _ _ hc => by cases hc⟩
   | arr kk cs =>
    simp only [ObR] at this
    obtain ⟨hk, cur, e, fz, h1, h2, h3, h4, _⟩ := this
    exact ⟨cur, e, fz, h1, h2, h3, fun _ hc => (by cases hc), fun _ _ hc => (by injection hc with hc hc'; subst hc; subst hc'; exact ⟨hk, h4⟩)⟩
 obtain ⟨cur, e, fz, hb, hu, hO, hc1, hc2⟩ := hblk
 have hsz : ∃ n, sizeT P t = some n ∧ cv.cells.size = n ∧ off + n ≤ cur.size ∧ (∀ u ∈ cv.cells.toList, u.oneCell' = true) := by
  cases ob with
  | dead => simp [obWrite] at hw
  | map ks vs => simp [obWrite] at hw
  | cells cs =>
   simp only [obWrite] at hw
   obtain ⟨vs, h1, hw⟩ := opt_some.1 hw
   obtain ⟨n, hn, hw⟩ := opt_some.1 hw
   split at hw <;> simp only [Option.some.injEq, reduceCtorEq] at hw
   rename_i hc
   simp only [Bool.and_eq_true] at hc
   have hcn := Nat.eq_of_beq_eq_true hc.1
   have hle := Nat.le_of_ble_eq_true hc.2
   have := hc1 cs rfl
   rcases hlvl with e | e
   ·obtain ⟨h2, h3, h4, h5⟩ := LV_cells_rel h1 (hv.1 e)
    exact ⟨n, hn, by omega, by omega, h4⟩
   ·obtain ⟨h2, h3, h4, h5⟩ := LV_cells_rel h1 (hv.2 e)
    exact ⟨n, hn, by omega, by omega, h4⟩
  | arr kk cs =>
   simp only [obWrite] at hw
   obtain ⟨c, h1, hw⟩ := opt_some.1 hw
   obtain ⟨n, hn, hw⟩ := opt_some.1 hw
   split at hw <;> simp only [Option.some.injEq, reduceCtorEq] at hw
   rename_i hc
   simp only [Bool.and_eq_true] at hc
   obtain ⟨hcn, hso⟩ := solid_of_elem hc.1
   have hle := Nat.le_of_ble_eq_true hc.2
   have := (hc2 kk cs rfl).2
   rcases hlvl with e | e
   ·obtain ⟨h2, h3⟩ := solid_cells hso (getCv_rel h1 (hv.1 e))
    have := VRL_len h2
    exact ⟨n, hn, by simp at this; omega, by omega, h3⟩
   ·obtain ⟨h2, h3⟩ := solid_cells hso (getCv_rel h1 (hv.2 e))
    have := VRL_len h2
    exact ⟨n, hn, by simp at this; omega, by omega, h3⟩
 obtain ⟨n, hn, hcn, hfit, hone⟩ := hsz
 have hrun : (storeVar t ⟨G.β lev i, off, none⟩ cv).run P w = .ok () (w.setRow (G.β lev i) (putAll cur off cv.cells.toList)) := by
  have := storeCells_run (P := P) (G.β lev i) off e fz cv.cells.toList 0 cur w hb hu (by simpa [hcn] using hfit) hone
  simp only [Nat.add_zero] at this
  simp only [storeVar, Sem.run_bind, sizeT_run hn, Result.andThen_ok, hcn, ne_eq, not_true_eq_false, if_false, this]
 have hvl : cv.cells.toList.length = n := by simpa using hcn
 refine ⟨_, hrun, ?_⟩
 have hownβ : ∀ b, Owns v cv b → b ≠ G.β lev i := fun b hb e => (hown b hb).2.1 lev i hl e.symm
 have hcell : ∀ cs' k b, o' = .cells cs' → CellOwns cs' (putAll cur off cv.cells.toList) k b →
   (OwnsAt G w s.fr tm (μ ++ [s.lam]) (.ob lev i k) b ∧ (k < off ∨ off + n ≤ k)) ∨ (k = off ∧ Owns v cv b) := by
  rintro cs' k b rfl ⟨x, hx, hox⟩
  cases ob with
  | dead => simp [obWrite] at hw
  | map ks vs => simp [obWrite] at hw
  | arr kk cs =>
   simp only [obWrite] at hw
   obtain ⟨c, h1, hw⟩ := opt_some.1 hw
   obtain ⟨n, hn, hw⟩ := opt_some.1 hw
   split at hw <;> simp at hw
  | cells cs =>
   simp only [obWrite] at hw
   obtain ⟨vs, h1, hw⟩ := opt_some.1 hw
   obtain ⟨n', hn', hw⟩ := opt_some.1 hw
   rw [hn] at hn'
   injection hn' with hn'
   subst hn'
   split at hw <;> simp only [Option.some.injEq, reduceCtorEq, Ob.cells.injEq] at hw
   rename_i hc
   simp only [Bool.and_eq_true] at hc
   have hvn := Nat.eq_of_beq_eq_true hc.1
   have hle := Nat.le_of_ble_eq_true hc.2
   subst hw
   have hlr : ∃ (G2 : Gh) (L2 nl2 : Nat), LVR G2 w L2 nl2 v cv := by
    rcases hlvl with e | e
    ·exact ⟨_, _, _, hv.1 e⟩
    ·exact ⟨_, _, _, hv.2 e⟩
   obtain ⟨G2, L2, nl2, hlr⟩ := hlr
   obtain ⟨h2, h3, h4, h5⟩ := LV_cells_rel h1 hlr
   by_cases hk : k < off ∨ off + n ≤ k
   ·left
    rw [putAll_getD_out (by rw [hvl]; exact hk)] at hox
    have hx' : cs[k]? = some x := by
     rcases hk with hk | hk
     ·rw [setRange_below vs off cs k hk] at hx; exact hx
     ·rw [setRange_above vs off cs k (by omega)] at hx; exact hx
    refine ⟨?_, hk⟩
    simp only [OwnsAt, hob, hx']
    exact ⟨cur, e, fz, hb, hox⟩
   ·right
    obtain ⟨j, rfl⟩ : ∃ j, k = off + j := ⟨k - off, by omega⟩
    rw [putAll_getD_at (by omega) (by omega)] at hox
    rw [setRange_at vs off cs j (by omega) (by omega)] at hx
    have : CellOwns vs cv.cells j b := ⟨x, hx, by
     rw [List.getD_eq_getElem?_getD, Array.getElem?_toList] at hox
     rw [Array.getD_eq_getD_getElem?]; exact hox⟩
    obtain ⟨hj, ho⟩ := h5 j b this
    exact ⟨by omega, ho⟩
 have hnew : ∀ G' w', Le G w G' w' → G' = G → w' = w.setRow (G.β lev i) (putAll cur off cv.cells.toList) → ∀ (G2 : Gh) (L2 nl2 : Nat), (∀ l i, G2.β l i = G.β l i) → G2.O = G.O → Le G2 w G2 w' → ObR G2 w L2 nl2 (G.β lev i) (G.sz lev i) ob →
   LVR G2 w L2 nl2 v cv → ObR G2 w' L2 nl2 (G.β lev i) (G.sz lev i) o' := by
  intro G' w' _ hG' hw' G2 L2 nl2 hβ2 hO2 hle2 hr hvr
  subst hw'
  have hnh := setRow_heap w (G.β lev i) cur (putAll cur off cv.cells.toList) e fz hb
  have hkeep : ∀ b, b ≠ G.β lev i → (w.setRow (G.β lev i) (putAll cur off cv.cells.toList)).heap[b]? = w.heap[b]? := fun b h => setRow_other w _ b _ h
  have hun : Unfrozen (putAll cur off cv.cells.toList) fz := fun j hj => hu j (by simpa [putAll_size] using hj)
  cases ob with
  | dead => simp [obWrite] at hw
  | map ks vs => simp [obWrite] at hw
  | cells cs =>
   simp only [obWrite] at hw
   obtain ⟨vs, h1, hw⟩ := opt_some.1 hw
   obtain ⟨n', hn', hw⟩ := opt_some.1 hw
   rw [hn] at hn'
   injection hn' with hn'
   subst hn'
   split at hw <;> simp only [Option.some.injEq, reduceCtorEq] at hw
   rename_i hc
   simp only [Bool.and_eq_true] at hc
   have hvn := Nat.eq_of_beq_eq_true hc.1
   have hle := Nat.le_of_ble_eq_true hc.2
   subst hw
   obtain ⟨h2, h3, h4, h5⟩ := LV_cells_rel h1 hvr
   simp only [ObR] at hr ⊢
   obtain ⟨cur2, e2, fz2, hb2, _, _, hcs, hr⟩ := hr
   rw [hb] at hb2
   obtain ⟨rfl, rfl, rfl⟩ := (Obj.cells.injEq ..).mp (Option.some.inj hb2)
   refine ⟨_, e, fz, hnh, hun, by rw [hO2]; exact hO, by rw [setRange_len, putAll_size]; exact hcs, fun k x hx => ?_⟩
   by_cases hk : k < off ∨ off + n ≤ k
   ·rw [putAll_getD_out (by rw [hvl]; exact hk)]
    have hx' : cs[k]? = some x := by
     rcases hk with hk | hk
     ·rw [setRange_below vs off cs k hk] at hx; exact hx
     ·rw [setRange_above vs off cs k (by omega)] at hx; exact hx
    refine LVR_mono hle2 (Nat.le_refl _) (fun _ _ => ⟨rfl, rfl⟩) x _ (fun b hox => ⟨hkeep b fun eb => ?_, rfl⟩) (hr k x hx')
    subst eb
    refine R.apart (.ob lev i k) _ lev i ?_ hl rfl
    simp only [OwnsAt, hob, hx']
    exact ⟨cur, e, fz, hb, hox⟩
   ·obtain ⟨j, rfl⟩ : ∃ j, k = off + j := ⟨k - off, by omega⟩
    rw [putAll_getD_at (by omega) (by omega)]
    rw [setRange_at vs off cs j (by omega) (by omega)] at hx
    have hgd : cv.cells.toList.getD j undef = cv.cells.getD j undef := by
     rw [List.getD_eq_getElem?_getD, Array.getElem?_toList, Array.getD_eq_getD_getElem?]
    rw [hgd]
    refine LVR_mono hle2 (Nat.le_refl _) (fun _ _ => ⟨rfl, rfl⟩) x _ (fun b hox => ⟨hkeep b (hownβ b (h5 j b ⟨x, hx, hox⟩).2), rfl⟩) (h3 j x hx)
  | arr kk cs =>
   simp only [obWrite] at hw
   obtain ⟨c, h1, hw⟩ := opt_some.1 hw
   obtain ⟨n', hn', hw⟩ := opt_some.1 hw
   rw [hn] at hn'
   injection hn' with hn'
   subst hn'
   split at hw <;> simp only [Option.some.injEq, reduceCtorEq] at hw
   rename_i hc
   simp only [Bool.and_eq_true] at hc
   obtain ⟨hvn, hso⟩ := solid_of_elem hc.1
   have hle := Nat.le_of_ble_eq_true hc.2
   subst hw
   obtain ⟨h2, h3⟩ := solid_cells hso (getCv_rel h1 hvr)
   simp only [ObR] at hr ⊢
   obtain ⟨hkk, cur2, e2, fz2, hb2, _, _, hcs, hr⟩ := hr
   rw [hb] at hb2
   obtain ⟨rfl, rfl, rfl⟩ := (Obj.cells.injEq ..).mp (Option.some.inj hb2)
   refine ⟨hkk, _, e, fz, hnh, hun, by rw [hO2]; exact hO, by rw [setRange_len, putAll_size]; exact hcs, fun k x hx => ?_⟩
   by_cases hk : k < off ∨ off + n ≤ k
   ·rw [putAll_getD_out (by rw [hvl]; exact hk)]
    have hx' : cs[k]? = some x := by
     rcases hk with hk | hk
     ·rw [setRange_below c.cells off cs k hk] at hx; exact hx
     ·rw [setRange_above c.cells off cs k (by omega)] at hx; exact hx
    exact VR_mono hle2 x _ (hr k x hx')
   ·obtain ⟨j, rfl⟩ : ∃ j, k = off + j := ⟨k - off, by omega⟩
    rw [putAll_getD_at (by omega) (by omega)]
    rw [setRange_at c.cells off cs j (by omega) (by omega)] at hx
    obtain ⟨u, hu1, hu2⟩ := (VRL_get h2).2 j x hx
    rw [List.getD_eq_getElem?_getD, hu1]
    exact VR_mono hle2 x _ hu2
 obtain ⟨R1, hle, hT, hO1, hO2, hlv⟩ := R.setOb (s1 := s1) (μ1 := μ1) (o' := o') (cur' := putAll cur off cv.cells.toList) hl hb (putAll_size _ _ _) hfr hp hlen hμlen hH
  (fun G' w' hle hG hw' => ⟨fun e => by
    have hle' : Le G w G w' := by rw [hG] at hle; exact hle
    rw [hG]; exact hnew G' w' hle hG hw' G L s.lam.length (fun _ _ => rfl) rfl hle' (hobr.1 e) (hv.1 e),
   fun e => by
    have hle' : Le G w G w' := by rw [hG] at hle; exact hle
    rw [hG]; exact hnew G' w' hle hG hw' (G.below lev) lev 0 (fun _ _ => rfl) rfl (hle'.below lev) (hobr.2 e) (hv.2 e)⟩)
  (fun cs' k b he hco => by
   rcases hcell cs' k b he hco with ⟨h1, _⟩ | ⟨h1, h2⟩
   ·exact .inl h1
   ·refine .inr ⟨(hown b h2).1, (hown b h2).2.1, fun k' hk' => ?_⟩
    rcases hcell cs' k' b he hk' with ⟨h3, _⟩ | ⟨h3, _⟩
    ·exact absurd h3 ((hown b h2).1 _)
    ·omega)
 refine ⟨R1, E.le.trans hle, E.os, E.tape, E.output, by simpa using E.size, fun b hb hn => ?_, fun b hb => ?_, E.lev⟩
 ·obtain ⟨h1, h2⟩ := E.keep b hb hn
  refine ⟨?_, h2⟩
  rw [← h1]
  refine setRow_other w _ b _ fun eb => ?_
  subst eb
  rcases E.grow _ (.inr ⟨lev, i, hl, rfl⟩) with h | h
  ·exact hn h
  ·omega
 ·rcases hT b hb with h1 | ⟨cs', k, he, hco⟩
  ·exact E.grow b h1
  ·rcases hcell cs' k b he hco with ⟨h1, _⟩ | ⟨_, h1⟩
   ·exact E.grow b (.inl ⟨_, h1⟩)
   ·exact (hown b h1).2.2
theorem c_store {t : TypeId} {x y : Operand} (ho : o.op = .store t x y) (R : Rel G L s μ a.tmps w) (hd : ∀ d, o.dst = some d → d < a.tmps.size) (hk : KOK L G w s μ a o.dst k r K)
  (hop : storeK P h t (evA h s.fr x) (evA h s.fr y) (stripSlots h.take s) μ k = some r) : o.wp P a w K Q := by
 obtain ⟨R1, E1, hO⟩ := strips_ext R h.take
 have hl := stripSlots_lam h.take s
 obtain ⟨hv, hown⟩ := eval_rel R h y
 have hown' : ∀ b, Owns (evA h s.fr y) (a.eval y) b → (∀ l, ¬ OwnsAt G w (stripSlots h.take s).fr a.tmps (μ ++ [(stripSlots h.take s).lam]) l b) ∧ (∀ lev i, isLive (obAt (μ ++ [(stripSlots h.take s).lam]) lev i) → G.β lev i ≠ b) ∧ (TouchS G w s μ a.tmps b ∨ w.heap.size ≤ b) := by
  intro b hb
  obtain ⟨tt, ht, hot⟩ := hown b hb
  refine ⟨fun l hl' => ?_, fun lev i hlv => ?_, .inl (.inl ⟨.fr tt, hot⟩)⟩
  ·obtain ⟨a1, a2⟩ := hO l b hl'
   exact a1 tt ht (R.own l (.fr tt) b a2 hot)
  ·rw [hl.1] at hlv
   exact R.apart (.fr tt) b lev i hot hlv
 unfold storeK at hop
 split at hop
 ·rename_i i off he
  have hx := (eval_rel R h x).1
  rw [he] at hx
  simp only [LVR] at hx
  split at hop <;> try (simp at hop; done)
  rw [obWriteK_eq] at hop
  obtain ⟨o', h1, h2⟩ := opt_some.1 hop
  obtain ⟨w', hrun, R2, E2⟩ := R1.writeOb (P := P) (s1 := { stripSlots h.take s with lam := (stripSlots h.take s).lam.set i o' }) (μ1 := μ) (lev := L) (i := i) (off := off) (cv := a.eval y) E1 (by rw [← R.lev]; exact muOb_eq) h1
   ⟨fun _ => by rw [hl.1]; exact hv, fun e => by omega⟩ hown' rfl rfl (by simp) rfl (by rw [← R.lev]; exact muSet_loc.symm)
  obtain ⟨R3, E3⟩ := step_done (dst := o.dst) (v := .cv .undef) (cv := undef) R2 E2 (by simp [LVR, VR]) (fun b hb => by simp [Owns] at hb) hd
  refine wp_of_skip ?_ (hk _ _ _ _ w' G h2 R3 E3)
  simp only [execOp, ho, hx.2]
  refine run_u ?_
  simp only [Instr.storeAt, Instr.sureAddr, Sem.run_bind, Sem.run_pure, Result.andThen_ok, hrun]
 ·split at hop <;> try (simp at hop; done)
  obtain ⟨q, hc, hop⟩ := opt_some.1 hop
  have hx := eval_cv R (getRef_eq hc)
  simp only [VR] at hx
  obtain ⟨hok, hop⟩ := guardB_some.1 hop
  obtain ⟨o', h1, h2⟩ := opt_some.1 hop
  have hq : q.1 < μ.length := by
   by_cases hq : q.1 < μ.length
   ·exact hq
   ·simp only [muOb] at h1
    rw [List.getElem?_eq_none (by omega)] at h1
    simp [obWrite] at h1
  obtain ⟨w', hrun, R2, E2⟩ := R1.writeOb (P := P) (s1 := stripSlots h.take s) (μ1 := muSet μ q.1 q.2.1 o') (lev := q.1) (i := q.2.1) (off := q.2.2) (cv := a.eval y) E1 (muOb_lt hq) h1
   ⟨fun e => by rw [R.lev] at hq; omega, fun _ => LVR_below hok hv⟩ hown' rfl rfl rfl muSet_len.1 (muSet_out hq).symm
  obtain ⟨R3, E3⟩ := step_done (dst := o.dst) (v := .cv .undef) (cv := undef) R2 E2 (by simp [LVR, VR]) (fun b hb => by simp [Owns] at hb) hd
  refine wp_of_skip ?_ (hk _ _ _ _ w' G h2 R3 E3)
  simp only [execOp, ho, hx.2]
  refine run_u ?_
  simp only [Instr.storeAt, Instr.sureAddr, Sem.run_bind, Sem.run_pure, Result.andThen_ok, hrun]
 ·simp at hop
end
end Go.Abs

set_option linter.unusedVariables false
set_option linter.unusedSimpArgs false
namespace Go.Abs
open Go
section
variable {P : Program} {ρ : Rho} {α : Type} {L : Nat} {G : Gh} {w : World} {s : S} {μ : Mu} {a : Act} {o : Oper} {h : OpHint} {k : LV → S → Mu → Option α} {p : CV → S → Mu → Option α} {r : α} {K : Act → World → Prop} {Q : Exit → Act → World → Prop}
theorem VRL_app : ∀ {cs ds : List CV} {us vs : List Value}, VRL G w cs us → VRL G w ds vs → VRL G w (cs ++ ds) (us ++ vs)
 | [], ds, us, vs, h, h' => by simp only [VRL] at h; subst h; simpa using h'
 | c :: cs, ds, us, vs, h, h' => by
  simp only [VRL, List.cons_append] at h ⊢
  obtain ⟨v, r, rfl, h1, h2⟩ := h
  exact ⟨v, r ++ vs, rfl, h1, VRL_app h2 h'⟩
theorem EL_vals {b s : Nat} : ∀ {off : Nat} {xs : List CV}, EL G w b s off xs → (∀ x ∈ xs, x.cells.length = s) → ∃ vs, VRL G w (xs.flatMap CV.cells) vs ∧ ∀ (j : Nat) v, vs[j]? = some v → w.cell? ⟨b, off + j, none⟩ = some v ∧ off + j < G.O b
 | off, [], _, _ => ⟨[], by simp [VRL], fun j v hv => by simp at hv⟩
 | off, x :: xs, h, hs => by
  have hx := EL_CL h 0 x rfl
  have h2 : EL G w b s (off + s) xs := by
   have := EL_drop 1 h
   simpa using this
  obtain ⟨vs, h3, h4⟩ := EL_vals h2 fun y hy => hs y (List.mem_cons_of_mem _ hy)
  simp only [Nat.zero_mul, Nat.add_zero] at hx
  have hl := hs x (by simp)
  have h5 : ∃ us, VRL G w x.cells us ∧ ∀ (j : Nat) v, us[j]? = some v → w.cell? ⟨b, off + j, none⟩ = some v ∧ off + j < G.O b := by
   obtain ⟨us, h6, h7⟩ := CL_vals hx
   refine ⟨us, h6, fun j v hv => ⟨h7 j v hv, ?_⟩⟩
   have hj : j < us.length := (List.getElem?_eq_some_iff.1 hv).1
   have := VRL_len h6
   obtain ⟨v', _, h8, _⟩ := CL_get hx j (x.cells[j]'(by omega)) (by simp)
   exact h8
  obtain ⟨us, h6, h7⟩ := h5
  have hus := VRL_len h6
  refine ⟨us ++ vs, ?_, fun j v hv => ?_⟩
  ·simp only [List.flatMap_cons]
   exact VRL_app h6 h3
  ·by_cases hj : j < us.length
   ·rw [List.getElem?_append_left hj] at hv
    exact h7 j v hv
   ·rw [List.getElem?_append_right (by omega)] at hv
    have := h4 (j - us.length) v hv
    rw [show off + s + (j - us.length) = off + j by omega] at this
    exact this
theorem solids_flat : ∀ {xs : List CV}, (∀ x ∈ xs, solid x = true) → ∀ {vs : List Value}, VRL G w (xs.flatMap CV.cells) vs → ∀ v ∈ vs, v.oneCell' = true
 | [], _, vs, h, v, hv => by simp only [List.flatMap_nil, VRL] at h; subst h; simp at hv
 | x :: xs, hs, vs, h, v, hv => by
  have hx := hs x (by simp)
  have key : ∀ (cs ds : List CV) (vs : List Value), VRL G w (cs ++ ds) vs → ∃ us ws, vs = us ++ ws ∧ VRL G w cs us ∧ VRL G w ds ws := by
   intro cs
   induction cs with
   | nil => intro ds vs h; exact ⟨[], vs, rfl, by simp [VRL], by simpa using h⟩
   | cons c cs ih =>
    intro ds vs h
    simp only [List.cons_append, VRL] at h
    obtain ⟨v, r, rfl, h1, h2⟩ := h
    obtain ⟨us, ws, rfl, h3, h4⟩ := ih ds r h2
    exact ⟨v :: us, ws, rfl, by simp only [VRL]; exact ⟨v, us, rfl, h1, h3⟩, h4⟩
  simp only [List.flatMap_cons] at h
  obtain ⟨us, ws, rfl, h1, h2⟩ := key _ _ _ h
  rcases List.mem_append.1 hv with hv | hv
  ·unfold solid at hx
   split at hx
   ·exact solids_one hx h1 v hv
   ·rename_i c hc
    have hcc : x.cells = [x] := cells_ne_agg (by intro cs e; exact hc cs e)
    rw [hcc] at h1
    exact solids_one (cs := [x]) (by simp only [solids, hx]) h1 v hv
  ·exact solids_flat (fun y hy => hs y (List.mem_cons_of_mem _ hy)) h2 v hv
structure Appends (P : Program) (w : World) (xt : TypeId) (y : Value) (size m : Nat) (news : List Value) : Prop where
 type : ∃ d, P.underlying xt = some d ∧ ∀ k, d ≠ .int k
 len : ∀ w', (Builtin.lenOf y).run P w' = .ok m w'
 cells : ∀ w', w'.heap = w.heap → (Builtin.firstCells size m y).run P w' = .ok news.toArray w'
 size : news.length = m * size
theorem append_room {t ty e xt : TypeId} {i : TypeInfo} {y : Value} {m : Nat} {news : List Value} (ht : P.underlying t = some (.slice e)) (hi : P.info? e = some i) (A : Appends P w xt y i.size m news)
  {g sLen sCap : Nat} {cur : Array Value} {e' : TypeId} {fz : Nat × Nat} (hg : w.heap[g]? = some (.cells cur e' fz)) (hfz : Unfrozen cur fz) (h1 : ∀ u ∈ news, u.oneCell' = true) (hroom : sLen + m ≤ sCap) (hfit : sLen * i.size + news.length ≤ cur.size) :
  (Builtin.append_ #[t, xt] ty #[.slice (some ⟨g, 0, none⟩) sLen sCap, y]).run P w = .ok (.slice (some ⟨g, 0, none⟩) (sLen + m) sCap) (w.setRow g (putAll cur (sLen * i.size) news)) := by
 obtain ⟨d, hd, hni⟩ := A.type
 have hst := storeCells_run (P := P) g (sLen * i.size) e' fz news 0 cur w hg hfz (by simpa using hfit) h1
 have hf := A.cells w rfl
 have hn : (match d with | .int _ => true | _ => false) = false := by cases d <;> first | rfl | exact absurd rfl (hni _)
 simp only [Nat.add_zero] at hst
 simp [Builtin.append_, run_underlying ht, run_underlying hd, sizeOf, typeInfo, hi, A.len, hroom, hf, Addr.add_lit, hst, hn]
theorem append_grow {t ty e xt : TypeId} {i : TypeInfo} {z : Value} {y : Value} {m : Nat} {news : List Value} (ht : P.underlying t = some (.slice e)) (hi : P.info? e = some i) (hz : i.zero = some z) (A : Appends P w xt y i.size m news)
  {v : Value} {b : Option Addr} {sLen sCap : Nat} {olds : List Value} (holds : ∀ w', w'.heap = w.heap → (Builtin.firstCells i.size sLen (.slice b sLen sCap)).run P w' = .ok olds.toArray w')
  (hg : sCap < sLen + m) (h63 : ((sLen + m : Nat) : Int) ≤ 9223372036854775807) (hfit : Builtin.nextslicecap (sLen + m) sCap * i.bytes ≤ 281474976710656) :
  (Builtin.append_ #[t, xt] ty #[.slice b sLen sCap, y]).run P w =
   .ok (.slice (some ⟨w.heap.size, 0, none⟩) (sLen + m) (grownCap w (sLen + m) sCap e))
    (w.drew.alloc (.cells (olds.toArray ++ news.toArray ++ Builtin.zeroCells z.cells (grownCap w (sLen + m) sCap e - (sLen + m))) e)) := by
 obtain ⟨d, hd, hni⟩ := A.type
 have hn0 : (match d with | .int _ => true | _ => false) = false := by cases d <;> first | rfl | exact absurd rfl (hni _)
 have hn : ¬ (sLen + m ≤ sCap) := by omega
 have h63' : ¬ (9223372036854775807 < ((sLen : Int) + (m : Int))) := by omega
 have h48' : ¬ (281474976710656 < Builtin.nextslicecap (sLen + m) sCap * i.bytes) := by omega
 have hf := A.cells w.drew rfl
 have hfo := holds w.drew rfl
 simp [Builtin.append_, run_underlying ht, run_underlying hd, hn0, sizeOf, typeInfo, zeroValue, hi, hz, A.len, hn, h63', h48', Question.forced, hf, hfo, newRow, grownCap]
 congr 2
 apply Array.ext'
 simp [List.append_assoc]
theorem append_none {t ty e xt : TypeId} {i : TypeInfo} {y : Value} (ht : P.underlying t = some (.slice e)) (hi : P.info? e = some i) (A : Appends P w xt y i.size 0 []) :
  (Builtin.append_ #[t, xt] ty #[.slice none 0 0, y]).run P w = .ok (.slice none 0 0) w := by
 obtain ⟨d, hd, hni⟩ := A.type
 have hn0 : (match d with | .int _ => true | _ => false) = false := by cases d <;> first | rfl | exact absurd rfl (hni _)
 simp [Builtin.append_, run_underlying ht, run_underlying hd, hn0, sizeOf, typeInfo, hi, A.len, A.cells w rfl]
theorem append_done {G0 : Gh} {w0 : World} {T0 : Nat → Prop} (R : Rel G L s μ a.tmps w) (E : Ext L T0 G0 w0 G w (TouchS G w s μ a.tmps)) (hd : ∀ d, o.dst = some d → d < a.tmps.size)
  {t ty e xt : TypeId} {i : TypeInfo} {z : Value} {u y : Value} {m : Nat} {news : List Value} {xs ys : List CV} (ht : P.underlying t = some (.slice e)) (hi : P.info? e = some i) (hz : i.zero = some z) (hzs : z.cells.size = i.size)
  (hb1 : 1 ≤ i.size) (hb2 : i.bytes ≤ 128) (A : Appends P w xt y i.size m news) (hy : VRL G w (ys.flatMap CV.cells) news) (hm : ys.length = m)
  (hxs : ∀ x ∈ xs, x.cells.length = i.size ∧ solid x = true) (hys : ∀ x ∈ ys, x.cells.length = i.size ∧ solid x = true) (hsm : xs.length + ys.length ≤ 1099511627776) (hbt : (Nat.beq e 5 || headOK ys) = true)
  (hu : Owned G w xs u) (hown : ∀ b, Owns (.osl xs) u b → (∀ l, ¬ OwnsAt G w s.fr a.tmps (μ ++ [s.lam]) l b) ∧ (∀ lev i, isLive (obAt (μ ++ [s.lam]) lev i) → G.β lev i ≠ b) ∧ (T0 b ∨ w0.heap.size ≤ b)) :
  ∃ cv w' G', (Builtin.append_ #[t, xt] ty #[u, y]).run P w = .ok cv w' ∧ Rel G' L (s.put o.dst (.osl (xs ++ ys))) μ (a.put o.dst cv).tmps w' ∧ Ext L T0 G0 w0 G' w' (TouchS G' w' (s.put o.dst (.osl (xs ++ ys))) μ (a.put o.dst cv).tmps) := by
 have hnl : news.length = ys.length * i.size := by rw [A.size, hm]
 have hone : ∀ u ∈ news, u.oneCell' = true := solids_flat (fun x hx => (hys x hx).2) hy
 have grown : ∀ (b : Option Addr) (cap : Nat) (olds : List Value), u = .slice b xs.length cap → cap < xs.length + m → ys ≠ [] → VRL G w (xs.flatMap CV.cells) olds →
   (∀ w', w'.heap = w.heap → (Builtin.firstCells i.size xs.length (.slice b xs.length cap)).run P w' = .ok olds.toArray w') →
   ∃ cv w' G', (Builtin.append_ #[t, xt] ty #[u, y]).run P w = .ok cv w' ∧ Rel G' L (s.put o.dst (.osl (xs ++ ys))) μ (a.put o.dst cv).tmps w' ∧ Ext L T0 G0 w0 G' w' (TouchS G' w' (s.put o.dst (.osl (xs ++ ys))) μ (a.put o.dst cv).tmps) := by
  intro b cap olds hu' hcap hyne hox hol
  subst hu'
  have hmul : (xs.length + m) * i.bytes ≤ (xs.length + m) * 128 := Nat.mul_le_mul_left _ hb2
  have hrun := append_grow (P := P) (w := w) (ty := ty) (v := y) ht hi hz A hol hcap (by omega) (growslice_fits hcap (by omega))
  obtain ⟨R2, hO2⟩ := R.drew
  have E2 : Ext L T0 G0 w0 G w.drew (TouchS G w.drew s μ a.tmps) := by
   refine E.drew.weaken (fun _ h => h) fun b hb => ?_
   rcases hb with ⟨l, hb⟩ | hb
   ·exact .inl ⟨l, hO2 l b hb⟩
   ·exact .inr hb
  have hge := grownCap_ge w (xs.length + m) cap e
  have hcm : grownCap w (xs.length + m) cap e ≤ maxLen := grownCap_le_maxLen w (xs.length + m) cap e (by unfold maxLen; omega)
  have hol2 := VRL_len hox
  have hfl := flat_len (fun x hx => (hxs x hx).1)
  have hall : ∀ x ∈ xs ++ ys, x.cells.length = i.size := fun x hx => by
   rcases List.mem_append.1 hx with hx | hx
   ·exact (hxs x hx).1
   ·exact (hys x hx).1
  have hlen : (xs ++ ys).length = xs.length + m := by rw [List.length_append, hm]
  generalize hcur : olds.toArray ++ news.toArray ++ Builtin.zeroCells z.cells (grownCap w (xs.length + m) cap e - (xs.length + m)) = cur at hrun
  have hcs : cur.size = grownCap w (xs.length + m) cap e * i.size := by
   rw [← hcur]
   simp only [Array.size_append, List.size_toArray, size_zeroCells, hzs, hnl, ← hol2, hfl, hm]
   rw [← Nat.add_mul, ← Nat.add_mul]
   congr 1
   omega
  have hgetl : ∀ (j : Nat) v, (olds ++ news)[j]? = some v → cur.getD j undef = v := by
   intro j v hv
   have hj : j < (olds ++ news).length := (List.getElem?_eq_some_iff.1 hv).1
   rw [← hcur, Array.getD_eq_getD_getElem?, ← Array.getElem?_toList]
   simp only [Array.toList_append, List.append_assoc]
   rw [← List.append_assoc, List.getElem?_append_left (by simpa using hj), hv]
   rfl
  obtain ⟨G1, R3, E3⟩ := newBlock_done (o := o) (n := (xs ++ ys).length * i.size) (ob := .cells cur e) (v := .osl (xs ++ ys)) (cv := .slice (some ⟨w.heap.size, 0, none⟩) (xs.length + m) (grownCap w (xs.length + m) cap e)) R2 E2 hd (fun hle => by
   simp only [LVR]
   refine .inr ⟨w.heap.size, grownCap w (xs.length + m) cap e, cur, e, i.size, by rw [hlen], heap_alloc_new w.drew _, by omega, hcm, by omega, hall, fun h0 => ?_, ?_, by rw [show w.heap.size = w.drew.heap.size from rfl, setO_same], clause_grow hbt hyne⟩
   ·have := congrArg List.length h0
    rw [hlen] at this
    simp only [List.length_nil] at this
    omega
   ·have hvl : VRL G w ((xs ++ ys).flatMap CV.cells) (olds ++ news) := by
     rw [List.flatMap_append]; exact VRL_app hox hy
    obtain ⟨hl2, hg2⟩ := VRL_get hvl
    refine EL_of (vs := olds ++ news) hall (VRL_of_get hl2 fun j c v hc hv => ?_) fun j v hv => ?_
    ·obtain ⟨v', hv', hr⟩ := hg2 j c hc
     rw [hv] at hv'
     injection hv' with hv'
     subst hv'
     exact VR_mono hle c v (VR_mono (G := G) (w := w) (G' := G) (w' := w.drew) ⟨fun _ _ _ h hb => ⟨h, hb⟩, fun _ _ h => ⟨h, rfl, rfl⟩, fun _ _ _ h hc => ⟨h, hc⟩, fun b cur e fz h => ⟨cur, fz, h, rfl⟩⟩ c v hr)
    ·have hj : j < (olds ++ news).length := (List.getElem?_eq_some_iff.1 hv).1
     have hj2 : j < (xs ++ ys).length * i.size := by
      rw [← flat_len hall, hl2]; exact hj
     have hj3 : j < cur.size := by
      rw [hcs]
      refine Nat.lt_of_lt_of_le hj2 (Nat.mul_le_mul_right _ ?_)
      omega
     rw [Nat.zero_add, show w.heap.size = w.drew.heap.size from rfl, setO_same]
     refine ⟨?_, hj2⟩
     rw [cell_of_heap (heap_alloc_new w.drew (.cells cur e)) hj3, hgetl j v hv]) (fun b hb => by simpa [Owns] using hb.symm)
  exact ⟨_, _, G1, hrun, R3, E3⟩
 rcases hu with ⟨rfl, rfl⟩ | ⟨b, cap, cur, e', sz, hue, hb, hc1, hc2, hc3, hc4, hc5, hel, hO, hC⟩
 ·by_cases h0 : m = 0
  ·subst h0
   have hy0 : ys = [] := List.eq_nil_of_length_eq_zero hm
   subst hy0
   have hn0 : news = [] := List.eq_nil_of_length_eq_zero (by simpa using hnl)
   subst hn0
   have hrun := append_none (P := P) (w := w) (ty := ty) ht hi A
   obtain ⟨R2, E2⟩ := step_done (dst := o.dst) (v := .osl []) (cv := .slice none 0 0) R E (by simp only [LVR]; exact .inl ⟨rfl, rfl⟩) (fun b hb => by simp [Owns] at hb) hd
   exact ⟨_, _, G, hrun, R2, E2⟩
  ·exact grown none 0 [] rfl (by simp only [List.length_nil]; omega) (fun h => h0 (by subst h; simpa using hm.symm)) (by simp [VRL]) (fun w' _ => run_firstCells_none w' _ _ _ _)
 ·subst hue
  obtain ⟨olds, hox, hoc⟩ := EL_vals hel hc4
  have hsz : xs = [] ∨ sz = i.size := by
   cases xs with
   | nil => exact .inl rfl
   | cons x xs => exact .inr ((hc4 x (by simp)).symm.trans (hxs x (by simp)).1)
  have hol2 := VRL_len hox
  have hfl := flat_len (fun x hx => (hxs x hx).1)
  by_cases hroom : xs.length + m ≤ cap
  ·
   have hcap0 : xs = [] → m = 0 := fun h => by have := hc5 h; subst h; simp only [List.length_nil] at hroom; omega
   have hfit : xs.length * i.size + news.length ≤ cur.size := by
    rcases hsz with h0 | h0
    ·have := hcap0 h0
     subst h0
     rw [hnl, hm, this]; simp
    ·subst h0
     rw [hnl, hm, ← Nat.add_mul]
     exact Nat.le_trans (Nat.mul_le_mul_right _ hroom) hc3
   have hrun := append_room (P := P) (w := w) (ty := ty) ht hi A hb (unfrozen0 cur) hone hroom hfit
   obtain ⟨ho1, ho2, ho3⟩ := hown b (by simp [Owns])
   have hOb : G.O b = xs.length * i.size := by
    rw [hO]
    rcases hsz with h0 | h0
    ·subst h0; simp
    ·rw [h0]
   have hblk : ∀ b', b' ≠ b → (w.setRow b (putAll cur (xs.length * i.size) news)).heap[b']? = w.heap[b']? := fun b' h => setRow_other w b b' _ h
   have hnh := setRow_heap w b cur (putAll cur (xs.length * i.size) news) e' (0, 0) hb
   have hle : Le G w (G.setO b ((xs ++ ys).length * i.size)) (w.setRow b (putAll cur (xs.length * i.size) news)) := by
    refine ⟨fun b' es clk h hb' => ?_, fun _ _ h => ⟨h, rfl, rfl⟩, fun b' off v h hc => ?_, fun b' cur2 e2 fz2 h => ?_⟩
    ·have hne : b' ≠ b := fun e => by subst e; rw [hb] at hb'; cases hb'
     exact ⟨by rw [setO_other hne]; exact h, by rw [hblk b' hne]; exact hb'⟩
    ·by_cases hne : b' = b
     ·subst hne
      rw [setO_same]
      refine ⟨?_, ?_⟩
      ·rw [hOb] at h
       refine Nat.lt_of_lt_of_le h (Nat.mul_le_mul_right _ ?_)
       simp
      ·rw [hOb] at h
       have hcur : off < cur.size := by omega
       rw [cell_of_heap hb hcur] at hc
       rw [cell_of_heap hnh (by rw [putAll_size]; exact hcur), putAll_getD_out (.inl h)]
       exact hc
     ·refine ⟨by rw [setO_other hne]; exact h, ?_⟩
      rw [← hc]
      simp only [World.cell?]
      rw [hblk b' hne]
    ·by_cases hne : b' = b
     ·subst hne
      rw [hb] at h
      obtain ⟨rfl, rfl, rfl⟩ := (Obj.cells.injEq ..).mp (Option.some.inj h)
      exact ⟨_, _, hnh, putAll_size _ _ _⟩
     ·exact ⟨cur2, fz2, by rw [hblk b' hne]; exact h, rfl⟩
   have hTb : ∀ b', Touch G w s.fr a.tmps (μ ++ [s.lam]) b' → b' ≠ b := by
    rintro b' (⟨l, hl⟩ | ⟨lev, j, hl, rfl⟩) e
    ·subst e; exact ho1 l hl
    ·exact ho2 lev j hl e
   obtain ⟨R2, hO2⟩ := R.frame hle (fun b' hb' => ⟨hblk b' (hTb b' hb'), setO_other (hTb b' hb')⟩) (fun _ _ _ => ⟨rfl, rfl⟩) rfl
   have E2 : Ext L T0 G0 w0 (G.setO b ((xs ++ ys).length * i.size)) (w.setRow b (putAll cur (xs.length * i.size) news)) (TouchS (G.setO b ((xs ++ ys).length * i.size)) (w.setRow b (putAll cur (xs.length * i.size) news)) s μ a.tmps) := by
    refine ⟨E.le.trans hle, E.os, E.tape, E.output, by simpa using E.size, fun b' hb' hn => ?_, fun b' hb' => ?_, E.lev⟩
    ·obtain ⟨h1, h2⟩ := E.keep b' hb' hn
     have hne : b' ≠ b := fun e => by
      subst e
      rcases ho3 with h | h
      ·exact hn h
      ·omega
     exact ⟨(hblk b' hne).trans h1, (setO_other hne).trans h2⟩
    ·refine E.grow b' ?_
     rcases hb' with ⟨l, hl⟩ | hl
     ·exact .inl ⟨l, hO2 l b' hl⟩
     ·exact .inr hl
   have hlen : (xs ++ ys).length = xs.length + m := by rw [List.length_append, hm]
   have hall : ∀ x ∈ xs ++ ys, x.cells.length = i.size := fun x hx => by
    rcases List.mem_append.1 hx with hx | hx
    ·exact (hxs x hx).1
    ·exact (hys x hx).1
   have hvl : VRL G w ((xs ++ ys).flatMap CV.cells) (olds ++ news) := by
    rw [List.flatMap_append]; exact VRL_app hox hy
   have hoL : olds.length = xs.length * i.size := by rw [← hol2, hfl]
   obtain ⟨R3, E3⟩ := step_done (dst := o.dst) (v := .osl (xs ++ ys)) (cv := .slice (some ⟨b, 0, none⟩) (xs.length + m) cap) R2 E2 (by
    simp only [LVR]
    refine .inr ⟨b, cap, _, e', i.size, by rw [hlen], hnh, by omega, hc2, ?_, hall, fun h0 => ?_, ?_, setO_same, fun hb1 hb2 => hC (byteCells_pre xs ys hb1) fun hxn => hb2 (by subst hxn; have := hcap0 rfl; rw [List.nil_append]; exact List.eq_nil_of_length_eq_zero (by omega))⟩
    ·rw [putAll_size]
     rcases hsz with h0 | h0
     ·have := hc5 h0
      rw [this]; simp
     ·rw [← h0]; exact hc3
    ·exact hc5 (List.append_eq_nil_iff.1 h0).1
    ·obtain ⟨hl2, hg2⟩ := VRL_get hvl
     refine EL_of (vs := olds ++ news) hall (VRL_of_get hl2 fun j c v hc hv => ?_) fun j v hv => ?_
     ·obtain ⟨v', hv', hr⟩ := hg2 j c hc
      rw [hv] at hv'
      injection hv' with hv'
      subst hv'
      exact VR_mono hle c v hr
     ·have hj : j < (olds ++ news).length := (List.getElem?_eq_some_iff.1 hv).1
      have hj2 : j < (xs ++ ys).length * i.size := by rw [← flat_len hall, hl2]; exact hj
      rw [List.length_append] at hj
      rw [Nat.zero_add, setO_same]
      refine ⟨?_, hj2⟩
      rw [cell_of_heap hnh (by rw [putAll_size]; omega)]
      by_cases hjo : j < olds.length
      ·rw [List.getElem?_append_left hjo] at hv
       rw [putAll_getD_out (.inl (by omega))]
       have h1 := (hoc j v hv).1
       rw [Nat.zero_add, cell_of_heap hb (by omega)] at h1
       exact h1
      ·rw [List.getElem?_append_right (by omega)] at hv
       have := putAll_getD_at (cur := cur) (off := xs.length * i.size) (vs := news) (j := j - olds.length) hfit (by omega)
       rw [show xs.length * i.size + (j - olds.length) = j by omega] at this
       rw [this, List.getD_eq_getElem?_getD, hv]
       rfl) (fun b' hb' => by
    have : b = b' := by simpa [Owns] using hb'
    subst this
    exact ⟨fun l hl => ho1 l (hO2 l b hl), fun lev j hl => ho2 lev j hl, ho3⟩) hd
   exact ⟨_, _, _, hrun, R3, E3⟩
  ·refine grown (some ⟨b, 0, none⟩) cap olds rfl (by omega) (fun hyn => by subst hyn; simp only [List.length_nil] at hm; omega) hox fun w' hw' => ?_
   refine run_firstCells_some w' i.size xs.length ⟨b, 0, none⟩ xs.length cap olds (by rw [← hol2, hfl]) fun j v hv => ?_
   have := (hoc j v hv).1
   rw [add_none]
   simp only [World.cell?] at this ⊢
   rw [hw']
   exact this
theorem appends_sl {t e xt e' : TypeId} {sz : Nat} {ys : List CV} {y : Value} (hu : P.underlying xt = some (.slice e')) (hv : VR G w (.sl ys) y) (hs : ∀ x ∈ ys, x.cells.length = sz) :
  ∃ news, Appends P w xt y sz ys.length news ∧ VRL G w (ys.flatMap CV.cells) news := by
 simp only [VR] at hv
 obtain ⟨A, len, cap, rfl, rfl, hlc, hx⟩ := hv
 rcases hx with h0 | ⟨b, off, sz', rfl, hs', hel⟩
 ·have : ys = [] := List.eq_nil_of_length_eq_zero h0
  subst this
  refine ⟨[], ⟨⟨_, hu, fun k => by simp⟩, fun w' => rfl, fun w' _ => ?_, by simp⟩, by simp [VRL]⟩
  cases A with
  | none => exact run_firstCells_none w' _ _ _ _
  | some A => simp [Builtin.firstCells, loadCells, loadCellsFrom]
 ·obtain ⟨news, h1, h2⟩ := EL_vals hel hs'
  have hl := VRL_len h1
  rw [flat_len hs] at hl
  refine ⟨news, ⟨⟨_, hu, fun k => by simp⟩, fun w' => rfl, fun w' hw' => ?_, hl.symm⟩, h1⟩
  refine run_firstCells_some w' sz ys.length _ _ _ news hl.symm fun j v hv => ?_
  have := (h2 j v hv).1
  rw [add_none]
  simp only [World.cell?] at this ⊢
  rw [hw']
  exact this
theorem appends_str {xt : TypeId} {l : List UInt8} (hu : P.underlying xt = some .string) :
  ∃ news, Appends P w xt (.string ⟨⟨l⟩⟩) 1 l.length news ∧ VRL G w ((l.map fun (b : UInt8) => CV.v (.int .u8 (b.toNat : Int))).flatMap CV.cells) news := by
 refine ⟨byteVals l, ⟨⟨_, hu, fun k => by simp⟩, fun w' => rfl, fun w' _ => ?_, by simp [byteVals]⟩, ?_⟩
 ·simp only [Builtin.firstCells]
  have : ((⟨⟨l⟩⟩ : ByteArray).extract 0 l.length).data = ⟨l⟩ := by
   have h2 : (⟨⟨l⟩⟩ : ByteArray).extract 0 l.length = ⟨⟨l⟩⟩ := by
    have := ByteArray.extract_zero_size (b := ⟨⟨l⟩⟩)
    exact this
   rw [h2]
  rw [this]
  simp [byteVals]
 ·rw [byteFlat]
  refine VRL_of_get (by simp [byteVals]) fun j c v hc hv => ?_
  simp only [byteVals, List.getElem?_map, Option.map_eq_some_iff] at hc hv
  obtain ⟨b, hb, rfl⟩ := hc
  obtain ⟨b', hb', rfl⟩ := hv
  rw [hb] at hb'
  injection hb' with hb'
  subst hb'
  simp [VR]
theorem bytesOK_info {e : TypeId} {i : TypeInfo} (hi : P.info? e = some i) (h : bytesOK P e = true) : i.bytes ≤ 128 ∧ 1 ≤ i.size := by
 unfold bytesOK at h
 rw [hi] at h
 simp only [Bool.and_eq_true] at h
 exact ⟨Nat.le_of_ble_eq_true h.1, Nat.le_of_ble_eq_true h.2⟩
theorem c_append {x y : Operand} {c : Call} {t : TypeId} {ts : List TypeId} (ho : o.op = .call c) (hc : c.callee = .builtin .append) (hx : c.args.toList = [x, y]) (ht : c.argTypes.toList = t :: ts) (R : Rel G L s μ a.tmps w) (hd : ∀ d, o.dst = some d → d < a.tmps.size)
  (hk : KOK L G w s μ a o.dst k r K) (hts : ts.length ≤ 1) (hop : appendK P h t ts.head? (evA h s.fr x) (evA h s.fr y) (stripSlots h.take s) μ k = some r) : o.wp P a w K Q := by
 obtain ⟨R1, E1, hO⟩ := strips_ext R h.take
 have hl := stripSlots_lam h.take s
 unfold appendK at hop
 split at hop <;> try (simp at hop; done)
 rename_i e hu
 obtain ⟨sz, hsz, hop1⟩ := opt_some.1 hop
 obtain ⟨hby, hop2⟩ := guardB_some.1 hop1
 obtain ⟨zc, hz, hop3⟩ := opt_some.1 hop2
 obtain ⟨hzl, hop4⟩ := guardB_some.1 hop3
 clear hop hop1 hop2 hop3
 have hzl := Nat.eq_of_beq_eq_true hzl
 cases hth : ts.head? with
 | none => rw [hth] at hop4; simp at hop4
 | some xt =>
  rw [hth] at hop4
  obtain ⟨xs, hxs, hop⟩ := opt_some.1 hop4
  clear hop4
  have htl : ts = [xt] := by
   cases ts with
   | nil => simp at hth
   | cons q ts =>
    simp only [List.head?_cons, Option.some.injEq] at hth
    subst hth
    cases ts with
    | nil => rfl
    | cons => simp at hts
  subst htl
  have hargs : c.args = #[x, y] := by cases ha : c.args; simp_all
  have htys : c.argTypes = #[t, xt] := by cases ha : c.argTypes; simp_all
  obtain ⟨i, hi, his⟩ := sizeT_info hsz
  obtain ⟨hb2, hb1⟩ := bytesOK_info hi hby
  obtain ⟨z, i', hi', hiz, hzr, hzv⟩ := zeroCells_run (P := P) (G := G) (w := w) hz
  rw [hi] at hi'
  injection hi' with hi'
  subst hi'
  have hzs : z.cells.size = i.size := by have := VRL_len hzv; simp at this; omega
  obtain ⟨hou, how⟩ := getOsl_rel hxs (eval_rel R h x).1
  have hown : ∀ b, Owns (.osl xs) (a.eval x) b → (∀ l, ¬ OwnsAt G w (stripSlots h.take s).fr a.tmps (μ ++ [(stripSlots h.take s).lam]) l b) ∧ (∀ lev i, isLive (obAt (μ ++ [(stripSlots h.take s).lam]) lev i) → G.β lev i ≠ b) ∧ (TouchS G w s μ a.tmps b ∨ w.heap.size ≤ b) := by
   intro b hb
   obtain ⟨tt, htt, hot⟩ := (eval_rel R h x).2 b (how b hb)
   refine ⟨fun l hl' => ?_, fun lev i hlv => ?_, .inl (.inl ⟨.fr tt, hot⟩)⟩
   ·obtain ⟨a1, a2⟩ := hO l b hl'
    exact a1 tt htt (R.own l (.fr tt) b a2 hot)
   ·rw [hl.1] at hlv
    exact R.apart (.fr tt) b lev i hot hlv
  have fin : ∀ {ys : List CV} {m : Nat} {news : List Value}, Appends P w xt (a.eval y) i.size m news → VRL G w (ys.flatMap CV.cells) news → ys.length = m → (∀ x ∈ xs, x.cells.length = i.size ∧ solid x = true) → (∀ x ∈ ys, x.cells.length = i.size ∧ solid x = true) →
    xs.length + ys.length ≤ 1099511627776 → (Nat.beq e 5 || headOK ys) = true → k (.osl (xs ++ ys)) (stripSlots h.take s) μ = some r → o.wp P a w K Q := by
   intro ys m news hA hyv hym hxa hya hsm hbt hkr
   obtain ⟨cv, w', G', hrun, R2, E2⟩ := append_done (P := P) (o := o) (ty := o.type) R1 E1 hd hu hi hiz hzs hb1 hb2 hA hyv hym hxa hya hsm hbt hou hown
   refine wp_of_value ?_ (hk _ _ _ _ w' G' hkr R2 E2)
   simp only [execOp, ho, resolve, hc, hargs, htys, Sem.run_bind, Sem.run_pure, Result.andThen_ok, invoke, builtin, List.map_toArray, List.map_cons, List.map_nil]
   rw [hrun]; rfl
  split at hop
  ·rename_i hux
   obtain ⟨l, hl2, hop⟩ := opt_some.1 hop
   obtain ⟨hg, hop⟩ := guardB_some.1 hop
   simp only [Bool.and_eq_true] at hg
   obtain ⟨hg0, ⟨hg1, hg2⟩, hg3⟩ := hg
   have hg1 := Nat.eq_of_beq_eq_true hg1
   simp only [small, decide_eq_true_eq] at hg2
   have hyv := eval_cv R (getStr_eq hl2)
   simp only [VR] at hyv
   obtain ⟨news, hA, hn⟩ := appends_str (P := P) (G := G) (w := w) (l := l) hux
   have h1 : i.size = 1 := by omega
   rw [← hyv, ← h1] at hA
   refine fin hA hn (by simp) ?_ (fun x hx => ?_) (by simpa using hg2) (by rw [hg0]; rfl) hop
   ·rw [h1]; exact allSz_cells hg3
   ·obtain ⟨b, _, rfl⟩ := List.mem_map.1 hx
    exact ⟨h1.symm, rfl⟩
  ·rename_i e' hux
   obtain ⟨ys, hys, hop⟩ := opt_some.1 hop
   obtain ⟨hg, hop⟩ := guardB_some.1 hop
   simp only [appOK, Bool.and_eq_true] at hg
   obtain ⟨hg0, ⟨hg1, hg2⟩, hg3⟩ := hg
   simp only [small, decide_eq_true_eq] at hg1
   have hv := getSl_rel hys (eval_rel R h y).1
   obtain ⟨news, hA, hn⟩ := appends_sl (P := P) (t := t) (e := e) hux hv (fun x hx => ((allSz_cells hg3) x hx).1)
   rw [← his] at hA hg2 hg3
   exact fin hA hn rfl (allSz_cells hg2) (allSz_cells hg3) hg1 hg0 hop
  ·simp at hop
end
end Go.Abs

set_option linter.unusedVariables false
set_option linter.unusedSimpArgs false
namespace Go.Abs
open Go
def argS (args : List LV) : S := ⟨mkFr (frameOf 0 args), [], false⟩
def Gh.withO (G : Gh) (O' : Nat → Nat) : Gh := { G with O := O' }
def RetR (L : Nat) (T : Nat → Prop) (G : Gh) (w : World) : Out → Ending → World → Prop
 | .ret v μ', .returned cv, w' => ∃ O', Rel (G.withO O') L (argS [v]) μ' #[cv] w' ∧ Ext L T G w (G.withO O') w' (TouchS (G.withO O') w' (argS [v]) μ' #[cv])
 | .panic v μ', .panicked ch, w' => ∃ O' pv, ch = [{ v := pv, recovered := false }] ∧ VR (G.withO O') w' v pv ∧ Rel (G.withO O') L (argS []) μ' #[] w' ∧
   Ext L T G w (G.withO O') w' (TouchS (G.withO O') w' (argS []) μ' #[])
 | _, _, _ => False
def Kn (W0 w : World) (T : Nat → Prop) : Prop := W0.heap.size ≤ w.heap.size ∧ ∀ b, b < W0.heap.size → w.heap[b]? = W0.heap[b]? ∧ ¬ T b
theorem Kn.ext {W0 w w' : World} {T T' : Nat → Prop} {L : Nat} {G G' : Gh} (h : Kn W0 w T) (E : Ext L T G w G' w' T') : Kn W0 w' T' := by
 refine ⟨Nat.le_trans h.1 E.size, fun b hb => ?_⟩
 obtain ⟨h1, h2⟩ := h.2 b hb
 have hlt : b < w.heap.size := Nat.lt_of_lt_of_le hb h.1
 refine ⟨(E.keep b hlt h2).1.trans h1, fun ht => ?_⟩
 rcases E.grow b ht with h3 | h3
 ·exact h2 h3
 ·omega
theorem Kn.mono {W0 w : World} {T T' : Nat → Prop} (h : Kn W0 w T) (hT : ∀ b, T' b → T b) : Kn W0 w T' := ⟨h.1, fun b hb => ⟨(h.2 b hb).1, fun ht => (h.2 b hb).2 (hT b ht)⟩⟩
def Meets (P : Program) (W0 : World) (f : FuncId) (args : List LV) (μ : Mu) (out : Out) : Prop :=
 (∃ fn c, P.funcs[f]? = some fn ∧ fn.body = some c ∧ (fn.name == "runtime.NumGoroutine") = false) ∧
 ∀ (G : Gh) (w : World) (cargs : Array Value), cargs.size = args.length → Rel G μ.length (argS args) μ cargs w → Kn W0 w (TouchS G w (argS args) μ cargs) →
  Calls P f cargs w (RetR μ.length (TouchS G w (argS args) μ cargs) G w out)
section
variable {G : Gh} {w w' : World} {L : Nat} {μ μ' : Mu}
theorem obAt_nil {lev i : Nat} (h : isLive (obAt (μ ++ [[]]) lev i)) : lev < μ.length ∧ obAt (μ ++ [[]]) lev i = muOb μ lev i := by
 rcases Nat.lt_trichotomy lev μ.length with h1 | h1 | h1
 ·exact ⟨h1, muOb_lt h1⟩
 ·subst h1
  simp only [obAt, muOb_eq, lamOb] at h
  simp [isLive] at h
 ·simp only [obAt, muOb_gt h1] at h
  exact h.elim
theorem ownsAt_live {fr : Fr} {tm : Array Value} {H : Mu} {lev i k b : Nat} (h : OwnsAt G w fr tm H (.ob lev i k) b) : isLive (obAt H lev i) := by
 simp only [OwnsAt] at h
 split at h
 ·rename_i cs hcs; rw [hcs]; trivial
 ·exact h.elim
theorem ownsAt_ob {G' : Gh} {fr fr' : Fr} {tm tm' : Array Value} {H H' : Mu} {lev i k b : Nat} (ho : obAt H' lev i = obAt H lev i) (hβ : G'.β lev i = G.β lev i) (hb : w'.heap[G.β lev i]? = w.heap[G.β lev i]?)
  (h : OwnsAt G' w' fr' tm' H' (.ob lev i k) b) : OwnsAt G w fr tm H (.ob lev i k) b := by
 simp only [OwnsAt, ho, hβ, hb] at h ⊢
 exact h
theorem Rel.mergeU {s sr : S} {tm tmr : Array Value} {T : Nat → Prop} {O' : Nat → Nat} (R : Rel G L s μ tm w) (hp : s.pushed = false)
  (hT : ∀ b, T b → (∀ t, ¬ Owns (s.fr t) (tm.getD t undef) b) ∧ (∀ i k, ¬ OwnsAt G w s.fr tm (μ ++ [s.lam]) (.ob L i k) b) ∧ ∀ i, isLive (lamOb s.lam i) → G.β L i ≠ b)
  (hlam : sr.lam = []) (Rc : Rel (G.withO O') L sr μ' tmr w') (E : Ext L T G w (G.withO O') w' (TouchS (G.withO O') w' sr μ' tmr)) :
  Rel (G.withO O') L s μ' tm w' ∧
  (∀ l b, OwnsAt (G.withO O') w' s.fr tm (μ' ++ [s.lam]) l b → (b < w.heap.size ∧ ¬ T b ∧ OwnsAt G w s.fr tm (μ ++ [s.lam]) l b) ∨ ((∃ lev i k, l = .ob lev i k) ∧ OwnsAt (G.withO O') w' sr.fr tmr (μ' ++ [sr.lam]) l b)) ∧
  (∀ lev i, isLive (obAt (μ' ++ [s.lam]) lev i) → (G.β lev i < w.heap.size ∧ ¬ T (G.β lev i) ∧ lev = L ∧ isLive (obAt (μ ++ [s.lam]) lev i)) ∨ isLive (obAt (μ' ++ [sr.lam]) lev i)) := by
 have hμ' := Rc.lev
 have hμ := R.lev
 have hkeep : ∀ b, b < w.heap.size → ¬ T b → w'.heap[b]? = w.heap[b]? ∧ (G.withO O').O b = G.O b := fun b hb hn => E.keep b hb hn
 have hfrT : ∀ t b, Owns (s.fr t) (tm.getD t undef) b → b < w.heap.size ∧ ¬ T b := fun t b hb => ⟨R.touch_lt (.inl ⟨.fr t, hb⟩), fun h => (hT b h).1 t hb⟩
 have hobT : ∀ i k b, OwnsAt G w s.fr tm (μ ++ [s.lam]) (.ob L i k) b → b < w.heap.size ∧ ¬ T b := fun i k b hb => ⟨R.touch_lt (.inl ⟨_, hb⟩), fun h => (hT b h).2.1 i k hb⟩
 have eL : ∀ i, obAt (μ ++ [s.lam]) L i = lamOb s.lam i := fun i => by rw [← hμ]; exact muOb_eq
 have eL' : ∀ i, obAt (μ' ++ [s.lam]) L i = lamOb s.lam i := fun i => by rw [← hμ']; exact muOb_eq
 have hβT : ∀ i, isLive (lamOb s.lam i) → G.β L i < w.heap.size ∧ ¬ T (G.β L i) := fun i hl => ⟨R.touch_lt (.inr ⟨L, i, by rw [eL]; exact hl, rfl⟩), fun h => (hT _ h).2.2 i hl rfl⟩
 have elt : ∀ lev i, lev < L → obAt (μ' ++ [s.lam]) lev i = obAt (μ' ++ [sr.lam]) lev i := fun lev i h => by
  rw [obAt, obAt, muOb_lt (by omega), muOb_lt (by omega)]
 have hown : ∀ l b, OwnsAt (G.withO O') w' s.fr tm (μ' ++ [s.lam]) l b → (b < w.heap.size ∧ ¬ T b ∧ OwnsAt G w s.fr tm (μ ++ [s.lam]) l b) ∨ ((∃ lev i k, l = .ob lev i k) ∧ OwnsAt (G.withO O') w' sr.fr tmr (μ' ++ [sr.lam]) l b) := by
  intro l b h
  cases l with
  | fr t => exact .inl ⟨(hfrT t b h).1, (hfrT t b h).2, h⟩
  | ob lev i k =>
   have hl := ownsAt_live h
   rcases live_cases hμ' hl with ⟨h1, h2⟩ | ⟨rfl, h1, h2⟩
   ·exact .inr ⟨⟨_, _, _, rfl⟩, ownsAt_ob (elt lev i h1) rfl rfl h⟩
   ·have hl' : isLive (lamOb s.lam i) := by rw [← h2]; exact hl
    have h3 : OwnsAt G w s.fr tm (μ ++ [s.lam]) (.ob lev i k) b := ownsAt_ob (fr' := s.fr) (tm' := tm) (by rw [eL, eL']) rfl (hkeep _ (hβT i hl').1 (hβT i hl').2).1 h
    exact .inl ⟨(hobT i k b h3).1, (hobT i k b h3).2, h3⟩
 have hlive : ∀ lev i, isLive (obAt (μ' ++ [s.lam]) lev i) → (G.β lev i < w.heap.size ∧ ¬ T (G.β lev i) ∧ lev = L ∧ isLive (obAt (μ ++ [s.lam]) lev i)) ∨ isLive (obAt (μ' ++ [sr.lam]) lev i) := by
  intro lev i hl
  rcases live_cases hμ' hl with ⟨h1, h2⟩ | ⟨rfl, h1, h2⟩
  ·exact .inr (by rw [← elt lev i h1]; exact hl)
  ·have hl' : isLive (lamOb s.lam i) := by rw [← h2]; exact hl
   exact .inl ⟨(hβT i hl').1, (hβT i hl').2, rfl, by rw [eL]; exact hl'⟩
 have hTr : ∀ b, TouchS (G.withO O') w' sr μ' tmr b → T b ∨ w.heap.size ≤ b := E.grow
 refine ⟨⟨hμ', fun t => ?_, fun i => ?_, Rc.mu, fun lev i lev' i' h h' e => ?_, fun l l' b h h' => ?_, fun l b lev i h h' e => ?_, Rc.nlt, R.nL, R.ngt⟩, hown, hlive⟩
 ·exact LVR_mono E.le (Nat.le_refl _) (fun _ _ => ⟨rfl, rfl⟩) _ _ (fun b hb => hkeep b (hfrT t b hb).1 (hfrT t b hb).2) (R.fr t)
 ·refine ObR_mono E.le (Nat.le_refl _) (fun _ _ => ⟨rfl, rfl⟩) (fun hl => hkeep _ (hβT i hl).1 (hβT i hl).2) (fun cs j x cur e fz ho hx hb b' hb' => ?_) (R.lam i)
  have h3 : OwnsAt G w s.fr tm (μ ++ [s.lam]) (.ob L i j) b' := by
   simp only [OwnsAt, eL, ho, hx]
   exact ⟨cur, e, fz, hb, hb'⟩
  exact hkeep b' (hobT i j b' h3).1 (hobT i j b' h3).2
 ·rcases hlive lev i h with ⟨h1, h2, rfl, h3⟩ | h1 <;> rcases hlive lev' i' h' with ⟨h1', h2', rfl, h3'⟩ | h1'
  ·exact R.inj _ i _ i' h3 h3' e
  ·exfalso
   have e' : G.β lev i = G.β lev' i' := e
   rw [e'] at h1 h2
   rcases hTr (G.β lev' i') (.inr ⟨lev', i', h1', rfl⟩) with hh | hh
   ·exact h2 hh
   ·omega
  ·exfalso
   have e' : G.β lev i = G.β lev' i' := e
   rw [← e'] at h1' h2'
   rcases hTr (G.β lev i) (.inr ⟨lev, i, h1, rfl⟩) with hh | hh
   ·exact h2' hh
   ·omega
  ·exact Rc.inj lev i lev' i' h1 h1' e
 ·rcases hown l b h with ⟨h1, h2, h3⟩ | ⟨⟨_, _, _, rfl⟩, h3⟩ <;> rcases hown l' b h' with ⟨h1', h2', h3'⟩ | ⟨⟨_, _, _, rfl⟩, h3'⟩
  ·exact R.own l l' b h3 h3'
  ·exfalso
   rcases hTr b (.inl ⟨_, h3'⟩) with hh | hh
   ·exact h2 hh
   ·omega
  ·exfalso
   rcases hTr b (.inl ⟨_, h3⟩) with hh | hh
   ·exact h2' hh
   ·omega
  ·exact Rc.own _ _ b h3 h3'
 ·have e' : G.β lev i = b := e
  rcases hown l b h with ⟨h1, h2, h3⟩ | ⟨⟨_, _, _, rfl⟩, h3⟩ <;> rcases hlive lev i h' with ⟨h1', h2', rfl, h3'⟩ | h3'
  ·exact R.apart l b lev i h3 h3' e'
  ·rcases hTr b (.inr ⟨lev, i, h3', e'⟩) with hh | hh
   ·exact h2 hh
   ·omega
  ·subst e'
   rcases hTr _ (.inl ⟨_, h3⟩) with hh | hh
   ·exact h2' hh
   ·omega
  ·exact Rc.apart _ b lev i h3 h3' e'
theorem mkFr_frameOf : ∀ (args : List LV) (n t : Nat), mkFr (frameOf n args) t = if n ≤ t then (args[t - n]?).getD (.cv .undef) else .cv .undef
 | [], n, t => by simp [frameOf, mkFr]
 | v :: r, n, t => by
  simp only [frameOf, mkFr]
  split
  ·rename_i h
   have := Nat.eq_of_beq_eq_true h
   subst this
   simp
  ·rename_i h
   have hne : t ≠ n := fun e => by subst e; simp [Nat.beq_refl] at h
   rw [mkFr_frameOf r (n + 1) t]
   by_cases h1 : n + 1 ≤ t
   ·rw [if_pos h1, if_pos (by omega), show t - n = (t - (n + 1)) + 1 by omega]
    simp
   ·rw [if_neg h1, if_neg (by omega)]
theorem argS_fr (args : List LV) (t : Nat) : (argS args).fr t = (args[t]?).getD (.cv .undef) := by
 simp only [argS, mkFr_frameOf, Nat.zero_le, if_true, Nat.sub_zero]
theorem plainArg_rel {nl nl' L' : Nat} {x : LV} {v : Value} (hx : plainArg x = true) (h : LVR G w L nl x v) : LVR G w L' nl' x v := by
 cases x <;> simp only [plainArg, Bool.false_eq_true] at hx <;> simpa [LVR] using h
theorem Rel.enterU {s : S} {tm cargs : Array Value} {args : List LV} (R : Rel G L s μ tm w) (hp : s.pushed = false) (hv : ∀ j x, args[j]? = some x → plainArg x = true ∧ LVR G w L s.lam.length x (cargs.getD j undef))
  (ho : ∀ j x b, args[j]? = some x → Owns x (cargs.getD j undef) b → (∃ t, Owns (s.fr t) (tm.getD t undef) b) ∧ ∀ j' x', args[j']? = some x' → Owns x' (cargs.getD j' undef) b → j' = j) :
  Rel G L (argS args) μ cargs w ∧
  (∀ l b, OwnsAt G w (argS args).fr cargs (μ ++ [(argS args).lam]) l b → (∃ j x, l = .fr j ∧ args[j]? = some x ∧ Owns x (cargs.getD j undef) b) ∨ (∃ lev i k, l = .ob lev i k ∧ lev < L ∧ OwnsAt G w s.fr tm (μ ++ [s.lam]) l b)) ∧
  (∀ lev i, isLive (obAt (μ ++ [(argS args).lam]) lev i) → lev < L ∧ isLive (obAt (μ ++ [s.lam]) lev i)) := by
 have hμ := R.lev
 have hlive : ∀ lev i, isLive (obAt (μ ++ [(argS args).lam]) lev i) → lev < L ∧ isLive (obAt (μ ++ [s.lam]) lev i) := by
  intro lev i h
  obtain ⟨h1, h2⟩ := obAt_nil h
  refine ⟨by omega, ?_⟩
  have h3 : obAt (μ ++ [s.lam]) lev i = muOb μ lev i := muOb_lt h1
  rw [h3, ← h2]; exact h
 have hown : ∀ l b, OwnsAt G w (argS args).fr cargs (μ ++ [(argS args).lam]) l b → (∃ j x, l = .fr j ∧ args[j]? = some x ∧ Owns x (cargs.getD j undef) b) ∨ (∃ lev i k, l = .ob lev i k ∧ lev < L ∧ OwnsAt G w s.fr tm (μ ++ [s.lam]) l b) := by
  intro l b h
  cases l with
  | fr t =>
   simp only [OwnsAt, argS_fr] at h
   cases hx : args[t]? with
   | none => rw [hx] at h; simp [Owns] at h
   | some x => rw [hx] at h; exact .inl ⟨t, x, rfl, hx, h⟩
  | ob lev i k =>
   have hl := ownsAt_live h
   obtain ⟨h1, h2⟩ := obAt_nil hl
   refine .inr ⟨lev, i, k, rfl, by omega, ownsAt_ob (fr' := (argS args).fr) (tm' := cargs) ?_ rfl rfl h⟩
   rw [show obAt (μ ++ [(argS args).lam]) lev i = muOb μ lev i from h2]
   exact (muOb_lt h1).symm
 refine ⟨⟨hμ, fun t => ?_, fun i => ?_, R.mu, fun lev i lev' i' h h' e => R.inj lev i lev' i' (hlive lev i h).2 (hlive lev' i' h').2 e, fun l l' b h h' => ?_, fun l b lev i h h' e => ?_, R.nlt, ?_, R.ngt⟩, hown, hlive⟩
 ·rw [argS_fr]
  cases hx : args[t]? with
  | none => simp [LVR, VR]
  | some x => exact plainArg_rel (hv t x hx).1 (hv t x hx).2
 ·have : lamOb (argS args).lam i = .dead := by simp [argS, lamOb]
  rw [this]; trivial
 ·rcases hown l b h with ⟨j, x, rfl, hx, hox⟩ | ⟨lev, i, k, rfl, hlt, h1⟩ <;> rcases hown l' b h' with ⟨j', x', rfl, hx', hox'⟩ | ⟨lev', i', k', rfl, hlt', h1'⟩
  ·rw [(ho j x b hx hox).2 j' x' hx' hox']
  ·obtain ⟨t, ht⟩ := (ho j x b hx hox).1
   exact absurd (R.own (.fr t) _ b ht h1') (by simp)
  ·obtain ⟨t, ht⟩ := (ho j' x' b hx' hox').1
   exact absurd (R.own (.fr t) _ b ht h1) (by simp)
  ·exact R.own _ _ b h1 h1'
 ·rcases hown l b h with ⟨j, x, rfl, hx, hox⟩ | ⟨lev', i', k, rfl, hlt, h1⟩
  ·obtain ⟨t, ht⟩ := (ho j x b hx hox).1
   exact R.apart (.fr t) b lev i ht (hlive lev i h').2 e
  ·exact R.apart _ b lev i h1 (hlive lev i h').2 e
 ·have := R.nL
  rw [hp] at this
  simpa [argS] using this
end
end Go.Abs

set_option linter.unusedVariables false
set_option linter.unusedSimpArgs false
namespace Go.Abs
open Go
section
variable {P : Program} {W0 : World} {ρ : Rho} {α : Type} {L : Nat} {G : Gh} {w : World} {s : S} {μ : Mu} {a : Act} {o : Oper} {h : OpHint} {k : LV → S → Mu → Option α} {p : CV → S → Mu → Option α} {r : α} {K : Act → World → Prop} {Q : Exit → Act → World → Prop}
theorem eval_owns {h : OpHint} {x : Operand} {b : Nat} (ho : Owns (evA h s.fr x) (a.eval x) b) : ∃ t, x = .tmp t ∧ t ∈ h.take ∧ Owns (s.fr t) (a.tmps.getD t undef) b := by
 cases x with
 | tmp t =>
  simp only [evA, Act.eval] at ho
  cases ht : memN h.take t with
  | true => rw [ht] at ho; exact ⟨t, rfl, memN_iff.1 ht, ho⟩
  | false => rw [ht] at ho; exact absurd ho Owns_strip
 | const c => exact absurd ho Owns_ofVal
 | global g => simp [evA, Owns] at ho
 | func f => simp [evA, Owns] at ho
theorem memO_get : ∀ {l : List Operand} {t j : Nat}, l[j]? = some (.tmp t) → memO t l = true
 | [], t, j, h => by simp at h
 | x :: r, t, 0, h => by
  simp only [List.getElem?_cons_zero, Option.some.injEq] at h
  subst h
  simp [memO, Nat.beq_refl]
 | x :: r, t, j + 1, h => by
  have ih := memO_get (l := r) (t := t) (j := j) (by simpa using h)
  cases x <;> simp only [memO, ih]
  split <;> rfl
theorem distinctT_cons {x : Operand} {r : List Operand} (h : distinctT (x :: r) = true) : distinctT r = true ∧ ∀ t, x = .tmp t → memO t r = false := by
 cases x <;> simp only [distinctT] at h
 ·rename_i t
  split at h
  ·simp at h
  ·rename_i hm
   exact ⟨h, fun u e => by injection e with e; subst e; simpa using hm⟩
 all_goals exact ⟨h, fun t e => by cases e⟩
theorem distinctT_get : ∀ {l : List Operand}, distinctT l = true → ∀ {t j j' : Nat}, l[j]? = some (.tmp t) → l[j']? = some (.tmp t) → j = j'
 | [], _, t, j, j', h, _ => by simp at h
 | x :: r, hd, t, 0, 0, _, _ => rfl
 | x :: r, hd, t, 0, j' + 1, h, h' => by
  simp only [List.getElem?_cons_zero, Option.some.injEq] at h
  have := memO_get (l := r) (t := t) (j := j') (by simpa using h')
  rw [(distinctT_cons hd).2 t h] at this
  cases this
 | x :: r, hd, t, j + 1, 0, h, h' => by
  simp only [List.getElem?_cons_zero, Option.some.injEq] at h'
  have := memO_get (l := r) (t := t) (j := j) (by simpa using h)
  rw [(distinctT_cons hd).2 t h'] at this
  cases this
 | x :: r, hd, t, j + 1, j' + 1, h, h' => by
  have := distinctT_get (distinctT_cons hd).1 (t := t) (j := j) (j' := j') (by simpa using h) (by simpa using h')
  omega
theorem plainArgs_get : ∀ {l : List LV}, plainArgs l = true → ∀ {j : Nat} {x : LV}, l[j]? = some x → plainArg x = true
 | [], _, j, x, h => by simp at h
 | y :: r, hp, j, x, h => by
  simp only [plainArgs] at hp
  split at hp <;> try (simp at hp; done)
  cases j with
  | zero => simp only [List.getElem?_cons_zero, Option.some.injEq] at h; subst h; assumption
  | succ j => exact plainArgs_get hp (by simpa using h)
theorem Calls.mono {f : FuncId} {args : Array Value} {R R' : Ending → World → Prop} (h : Calls P f args w R) (hR : ∀ e w', R e w' → R' e w') : Calls P f args w R' := by
 intro cs
 obtain ⟨e, w', fr, h1, h2⟩ := h cs
 exact ⟨e, w', fr, hR e w' h1, h2⟩
structure ArgsR (G : Gh) (w : World) (L : Nat) (s : S) (tm : Array Value) (ts : List Nat) (args : List LV) (cargs : Array Value) : Prop where
 size : cargs.size = args.length
 val : ∀ j x, args[j]? = some x → LVR G w L s.lam.length x (cargs.getD j undef)
 own : ∀ j x b, args[j]? = some x → Owns x (cargs.getD j undef) b → (∃ t, t ∈ ts ∧ Owns (s.fr t) (tm.getD t undef) b) ∧ ∀ j' x', args[j']? = some x' → Owns x' (cargs.getD j' undef) b → j' = j
theorem args_rel (R : Rel G L s μ a.tmps w) {h : OpHint} {l : List Operand} (hd : distinctT l = true) {caps : List LV} {vs : List Value} (hc : LVRL G w L s.lam.length caps vs) :
  ArgsR G w L s a.tmps h.take (l.map (evA h s.fr) ++ caps) (l.map a.eval ++ vs).toArray := by
 obtain ⟨hcl, hcg⟩ := LVRL_get hc
 have hgl : ∀ j x, (l.map (evA h s.fr) ++ caps)[j]? = some x → (j < l.length ∧ ∃ y, l[j]? = some y ∧ x = evA h s.fr y ∧ (l.map a.eval ++ vs).toArray.getD j undef = a.eval y) ∨
   (LVR G w L s.lam.length x ((l.map a.eval ++ vs).toArray.getD j undef) ∧ ∀ xs, x ≠ .osl xs) := by
  intro j x hx
  by_cases hj : j < l.length
  ·left
   rw [List.getElem?_append_left (by simpa using hj)] at hx
   simp only [List.getElem?_map, Option.map_eq_some_iff] at hx
   obtain ⟨y, hy, rfl⟩ := hx
   refine ⟨hj, y, hy, rfl, ?_⟩
   simp only [Array.getD_eq_getD_getElem?, List.getElem?_toArray]
   rw [List.getElem?_append_left (by simpa using hj)]
   simp [hy]
  ·right
   rw [List.getElem?_append_right (by simp; omega)] at hx
   obtain ⟨v, hv, h1, h2⟩ := hcg _ x hx
   refine ⟨?_, h2⟩
   simp only [Array.getD_eq_getD_getElem?, List.getElem?_toArray]
   rw [List.getElem?_append_right (by simp; omega)]
   simp only [List.length_map] at hv ⊢
   rw [hv]; exact h1
 refine ⟨by simp [hcl], fun j x hx => ?_, fun j x b hx ho => ?_⟩
 ·rcases hgl j x hx with ⟨_, y, _, rfl, e⟩ | ⟨h1, _⟩
  ·rw [e]; exact (eval_rel R h y).1
  ·exact h1
 ·rcases hgl j x hx with ⟨_, y, hy, rfl, e⟩ | ⟨_, h2⟩
  ·rw [e] at ho
   obtain ⟨t, rfl, ht, hot⟩ := eval_owns (a := a) ho
   refine ⟨⟨t, ht, hot⟩, fun j' x' hx' ho' => ?_⟩
   rcases hgl j' x' hx' with ⟨_, y', hy', rfl, e'⟩ | ⟨_, h2⟩
   ·rw [e'] at ho'
    obtain ⟨t', rfl, ht', hot'⟩ := eval_owns (a := a) ho'
    have := R.own (.fr t) (.fr t') b hot hot'
    injection this with this
    subst this
    exact distinctT_get hd hy' hy
   ·exact absurd ho' (Owns_not h2)
  ·exact absurd ho (Owns_not h2)
theorem c_enterU {f : FuncId} {args : List LV} {cargs : Array Value} (R : Rel G L s μ a.tmps w) (hd : ∀ d, o.dst = some d → d < a.tmps.size) (hk : KOK L G w s μ a o.dst k r K) (hpk : POK L G w s μ a p r Q)
  (hrho : ∀ f args μ out, ρ.call f args μ = some out → Meets P W0 f args μ out) (hkn : Kn W0 w (TouchS G w s μ a.tmps)) (hp : s.pushed = false) (hpl : plainArgs args = true) (A : ArgsR G w L s a.tmps h.take args cargs)
  (hrun : (∃ fn c, P.funcs[f]? = some fn ∧ fn.body = some c ∧ (fn.name == "runtime.NumGoroutine") = false) → (execOp a.eval o).run P w = .ok (.enter f cargs) w)
  (hop : callK (ρ.call f args μ) (fun v μ => typedK P h.own o.type v fun v => k v (stripSlots h.take s) μ) (fun v μ => p v (stripSlots h.take s) μ) = some r) : o.wp P a w K Q := by
 obtain ⟨out, hout, hop⟩ := opt_some.1 hop
 obtain ⟨hfn, hM⟩ := hrho _ _ _ _ hout
 have hμ := R.lev
 obtain ⟨R1, E1, hO⟩ := strips_ext R h.take
 have hl := stripSlots_lam h.take s
 obtain ⟨Re, hown, hlive⟩ := R.enterU (tm := a.tmps) (args := args) (cargs := cargs) hp (fun j x hx => ⟨plainArgs_get hpl hx, A.val j x hx⟩) (fun j x b hx ho => ⟨(A.own j x b hx ho).1.imp fun t h => h.2, (A.own j x b hx ho).2⟩)
 have hT : ∀ b, TouchS G w (argS args) μ cargs b → (∀ t, ¬ Owns ((stripSlots h.take s).fr t) (a.tmps.getD t undef) b) ∧ (∀ i k, ¬ OwnsAt G w (stripSlots h.take s).fr a.tmps (μ ++ [(stripSlots h.take s).lam]) (.ob L i k) b) ∧ ∀ i, isLive (lamOb (stripSlots h.take s).lam i) → G.β L i ≠ b := by
  have eL : ∀ i, obAt (μ ++ [s.lam]) L i = lamOb s.lam i := fun i => by rw [← hμ]; exact muOb_eq
  rintro b (⟨l, hb⟩ | ⟨lev, i, hb, rfl⟩)
  ·rcases hown l b hb with ⟨j, x, rfl, hx, ho⟩ | ⟨lev, i, k, rfl, hlt, ho⟩
   ·obtain ⟨⟨u, hu, hou⟩, _⟩ := A.own j x b hx ho
    refine ⟨fun t ht => ?_, fun i k hik => ?_, fun i hi => ?_⟩
    ·obtain ⟨a1, a2⟩ := hO (.fr t) b ht
     exact a1 u hu (R.own _ (.fr u) b a2 hou)
    ·obtain ⟨a1, a2⟩ := hO _ b hik
     exact a1 u hu (R.own _ (.fr u) b a2 hou)
    ·rw [hl.1] at hi
     exact R.apart (.fr u) b L i hou (by rw [eL]; exact hi)
   ·refine ⟨fun t ht => ?_, fun i' k' hik => ?_, fun i' hi => ?_⟩
    ·have := R.own _ _ b (hO (.fr t) b ht).2 ho
     cases this
    ·have := R.own _ _ b (hO _ b hik).2 ho
     injection this with h1 h2 h3
     omega
    ·rw [hl.1] at hi
     exact R.apart _ b L i' ho (by rw [eL]; exact hi)
  ·obtain ⟨hlt, hl2⟩ := hlive lev i hb
   refine ⟨fun t ht => R.apart _ _ lev i (hO (.fr t) _ ht).2 hl2 rfl, fun i' k' hik => R.apart _ _ lev i (hO _ _ hik).2 hl2 rfl, fun i' hi e => ?_⟩
   rw [hl.1] at hi
   have := (R.inj L i' lev i (by rw [eL]; exact hi) hl2 e).1
   omega
 have hT0 : ∀ b, TouchS G w (argS args) μ cargs b → TouchS G w s μ a.tmps b := by
  rintro b (⟨l, hb⟩ | ⟨lev, i, hb, rfl⟩)
  ·rcases hown l b hb with ⟨j, x, rfl, hx, ho⟩ | ⟨lev, i, k, rfl, hlt, ho⟩
   ·obtain ⟨⟨u, hu, hou⟩, _⟩ := A.own j x b hx ho
    exact .inl ⟨.fr u, hou⟩
   ·exact .inl ⟨_, ho⟩
  ·exact .inr ⟨lev, i, (hlive lev i hb).2, rfl⟩
 have hcall := hM G w cargs A.size (by rw [hμ]; exact Re) (hkn.mono hT0)
 rw [hμ] at hcall
 unfold Oper.wp
 rw [hrun hfn, Oper.upon_enter]
 refine hcall.mono fun e w' hR => ?_
 have merge : ∀ {O' : Nat → Nat} {sr : S} {μ' : Mu} {tmr : Array Value}, sr.lam = [] → Rel (G.withO O') L sr μ' tmr w' → Ext L (TouchS G w (argS args) μ cargs) G w (G.withO O') w' (TouchS (G.withO O') w' sr μ' tmr) →
   Rel (G.withO O') L (stripSlots h.take s) μ' a.tmps w' ∧ Ext L (TouchS G w s μ a.tmps) G w (G.withO O') w' (TouchS (G.withO O') w' (stripSlots h.take s) μ' a.tmps) ∧
   (∀ b, TouchS (G.withO O') w' sr μ' tmr b → (TouchS G w s μ a.tmps b ∨ w.heap.size ≤ b)) ∧
   (∀ t b, OwnsAt (G.withO O') w' sr.fr tmr (μ' ++ [sr.lam]) (.fr t) b → (∀ l, ¬ OwnsAt (G.withO O') w' (stripSlots h.take s).fr a.tmps (μ' ++ [(stripSlots h.take s).lam]) l b) ∧
    ∀ lev i, isLive (obAt (μ' ++ [(stripSlots h.take s).lam]) lev i) → (G.withO O').β lev i ≠ b) := by
  intro O' sr μ' tmr hlam Rc E
  obtain ⟨R2, h2, h3⟩ := R1.mergeU (by rw [hl.2]; exact hp) hT hlam Rc E
  have hin : ∀ b, TouchS (G.withO O') w' sr μ' tmr b → (TouchS G w s μ a.tmps b ∨ w.heap.size ≤ b) := fun b hb => (E.grow b hb).imp (hT0 b) id
  refine ⟨R2, ⟨E.le, E.os, E.tape, E.output, E.size, fun b hb hn => E.keep b hb fun hh => hn (hT0 b hh), fun b hb => ?_, E.lev⟩, hin, fun t b hb => ⟨fun l hl' => ?_, fun lev i hli e => ?_⟩⟩
  ·rcases hb with ⟨l, hb⟩ | ⟨lev, i, hb, rfl⟩
   ·rcases h2 l b hb with ⟨_, _, h4⟩ | ⟨_, h4⟩
    ·exact .inl (.inl ⟨l, (hO l b h4).2⟩)
    ·exact hin b (.inl ⟨l, h4⟩)
   ·rcases h3 lev i hb with ⟨_, _, _, h4⟩ | h4
    ·rw [hl.1] at h4
     exact .inl (.inr ⟨lev, i, h4, rfl⟩)
    ·exact hin _ (.inr ⟨lev, i, h4, rfl⟩)
  ·rcases h2 l b hl' with ⟨h4, h5, _⟩ | ⟨⟨_, _, _, rfl⟩, h4⟩
   ·rcases E.grow b (.inl ⟨_, hb⟩) with hh | hh
    ·exact h5 hh
    ·omega
   ·have := Rc.own _ _ b hb h4
    cases this
  ·rcases h3 lev i hli with ⟨h4, h5, _, _⟩ | h4
   ·have e' : G.β lev i = b := e
    rw [e'] at h4 h5
    rcases E.grow b (.inl ⟨_, hb⟩) with hh | hh
    ·exact h5 hh
    ·omega
   ·exact Rc.apart _ b lev i hb h4 e
 cases out with
 | ret v μ' =>
  cases e with
  | returned cv =>
   simp only [RetR] at hR
   obtain ⟨O', Rc, E⟩ := hR
   obtain ⟨R2, E2, hin, hfr⟩ := merge rfl Rc E
   obtain ⟨y, hy, hyr⟩ := typedK_sound hop
   have hv : LVR (G.withO O') w' L 0 v cv := by
    have := Rc.fr 0
    simp only [argS_fr, List.getElem?_cons_zero, Option.getD_some] at this
    simpa [argS] using this
   have hv2 : LVR (G.withO O') w' L (stripSlots h.take s).lam.length v cv := LVR_mono (Le.refl _ _) (Nat.zero_le _) (fun _ _ => ⟨rfl, rfl⟩) v cv (fun _ _ => ⟨rfl, rfl⟩) hv
   obtain ⟨hy1, hy2⟩ := hyr (G.withO O') w' L _ cv hv2
   obtain ⟨R3, E3⟩ := step_done (dst := o.dst) (v := y) (cv := cv) R2 E2 hy1 (fun b hb => by
    have hat : OwnsAt (G.withO O') w' (argS [v]).fr #[cv] (μ' ++ [(argS [v]).lam]) (.fr 0) b := by
     have := hy2 b hb
     simpa [OwnsAt, argS_fr] using this
    exact ⟨(hfr 0 b hat).1, (hfr 0 b hat).2, hin b (.inl ⟨_, hat⟩)⟩) hd
   exact hk y _ μ' cv w' _ hy R3 E3
  | panicked ch => simp [RetR] at hR
  | outgrown => simp [RetR] at hR
 | panic v μ' =>
  cases e with
  | returned cv => simp [RetR] at hR
  | panicked ch =>
   simp only [RetR] at hR
   obtain ⟨O', pv, rfl, hv, Rc, E⟩ := hR
   obtain ⟨R2, E2, _, _⟩ := merge rfl Rc E
   exact hpk v _ μ' pv w' _ hop R2 hv E2
  | outgrown => simp [RetR] at hR
end
end Go.Abs
