/-
  The statement TokensConstantsCardSaid, proved; part 3 of 8 of its proof.
  Calls that see the caller's own variables: they are handed down as a new level of the outer heap.
  Maps, and what an interface value holds.
  One operation: all of them.
  The operations of a region, in the program's order.
  What comes behind an operation does not matter to it.
  What an operation looks at, and what it turns.
  What an operation turns, by its kind.
  What an operation turns: all of them.
  Two operations of a region, one before the other or the other way round.
  Two operations of a region change places.
  A region whose order is open: what comes out in the program's order comes out in every order.
  Only some variables are known from here on: the loop's head.
-/
import Derived.Test.YtfcjjankfjaapaaGreatDoorC1
import Derived.MapKept
set_option linter.all false
set_option linter.unusedSectionVars false
set_option linter.unusedVariables false
set_option linter.unusedSimpArgs false
namespace Go.Abs
open Go
def Gh.push (G : Gh) (L n : Nat) : Gh := { G with n := fun x => if x = L then n else G.n x }
section
variable {G G3 : Gh} {w w' : World} {L : Nat} {μ μ' : Mu}
theorem toOuterCV_rel {nl : Nat} {x : LV} {v : Value} {c : CV} (hle : Le G w G3 w) (hβ : ∀ i, i < nl → i < G3.n L ∧ G3.β L i = G.β L i ∧ G3.sz L i = G.sz L i) (h : LVR G w L nl x v) (hc : toOuterCV L x = some c) : VR G3 w c v := by
 cases x <;> simp only [toOuterCV, Option.some.injEq, reduceCtorEq] at hc <;> subst hc <;> simp only [LVR] at h
 ·exact VR_mono hle _ _ h
 ·exact VR_mono hle _ _ (Owned_sl h)
 ·simp only [VR]
  obtain ⟨h1, h2⟩ := h
  exact ⟨(hβ _ h1).1, by rw [(hβ _ h1).2.1]; exact h2⟩
 ·simp only [VR]
  obtain ⟨h1, cap, cur, e, fz, h2, h3, _, h4, h5⟩ := h
  obtain ⟨k1, k2, k3⟩ := hβ _ h1
  exact ⟨k1, cap, cur, e, fz, by rw [k2]; exact h2, h3, by rw [k2]; exact h4, by rw [k3]; exact h5⟩
 ·simp only [VR]
  obtain ⟨h1, h2⟩ := h
  exact ⟨(hβ _ h1).1, by rw [(hβ _ h1).2.1]; exact h2⟩
 ·simp only [VR]
  obtain ⟨h1, h2⟩ := h
  exact ⟨(hβ _ h1).1, by rw [(hβ _ h1).2.1]; exact h2⟩
theorem toOuterCVs_rel {nl : Nat} : ∀ {xs : List LV} {vs : List Value} {cs : List CV} (hle : Le G w G3 w) (hβ : ∀ i, i < nl → i < G3.n L ∧ G3.β L i = G.β L i ∧ G3.sz L i = G.sz L i) (h : LVRL G w L nl xs vs) (hc : toOuterCVs L xs = some cs), VRL G3 w cs vs
 | [], vs, cs, hle, hβ, h, hc => by
  simp only [toOuterCVs, Option.some.injEq] at hc
  subst hc
  simp only [LVRL] at h
  simpa [VRL] using h
 | x :: xs, vs, cs, hle, hβ, h, hc => by
  simp only [toOuterCVs] at hc
  obtain ⟨c, h1, hc⟩ := opt_some.1 hc
  obtain ⟨r, h2, hc⟩ := opt_some.1 hc
  simp only [Option.some.injEq] at hc
  subst hc
  simp only [LVRL] at h
  obtain ⟨v, vr, e, _, h3, h4⟩ := h
  simp only [VRL]
  exact ⟨v, vr, e, toOuterCV_rel hle hβ h3 h1, toOuterCVs_rel hle hβ h4 h2⟩
theorem toOuter_rel {nl L' nl' : Nat} {x y : LV} {v : Value} (hle : Le G w G3 w) (hO : G3.O = G.O) (hβ : ∀ i, i < nl → i < G3.n L ∧ G3.β L i = G.β L i ∧ G3.sz L i = G.sz L i) (h : LVR G w L nl x v) (hy : toOuter L x = some y) :
  LVR G3 w L' nl' y v ∧ ∀ b, Owns y v b ↔ Owns x v b := by
 unfold toOuter at hy
 split at hy
 ·simp only [Option.some.injEq] at hy
  subst hy
  exact ⟨by simp only [LVR] at h ⊢; exact Owned_mono hle (fun _ _ _ _ => ⟨rfl, by rw [hO]⟩) h, fun b => Iff.rfl⟩
 ·obtain ⟨cs, h1, hy⟩ := opt_some.1 hy
  simp only [Option.some.injEq] at hy
  subst hy
  simp only [LVR, VR] at h ⊢
  obtain ⟨vs, e, hl⟩ := h
  exact ⟨⟨vs, e, toOuterCVs_rel hle hβ hl h1⟩, fun b => by simp [Owns]⟩
 ·obtain ⟨c, h1, hy⟩ := opt_some.1 hy
  simp only [Option.some.injEq] at hy
  subst hy
  refine ⟨by simp only [LVR]; exact toOuterCV_rel hle hβ h h1, fun b => ?_⟩
  rename_i n1 n2
  cases x <;> first | exact (n1 _ rfl).elim | simp [Owns]
theorem toOuters_get : ∀ {xs ys : List LV}, toOuters L xs = some ys → ys.length = xs.length ∧ ∀ (j : Nat) y, ys[j]? = some y → ∃ x, xs[j]? = some x ∧ toOuter L x = some y
 | [], ys, h => by simp only [toOuters, Option.some.injEq] at h; subst h; exact ⟨rfl, fun j y hy => by simp at hy⟩
 | x :: xs, ys, h => by
  simp only [toOuters] at h
  obtain ⟨y, h1, h⟩ := opt_some.1 h
  obtain ⟨r, h2, h⟩ := opt_some.1 h
  simp only [Option.some.injEq] at h
  subst h
  obtain ⟨h3, h4⟩ := toOuters_get h2
  refine ⟨by simp [h3], fun j z hz => ?_⟩
  cases j with
  | zero => simp only [List.getElem?_cons_zero, Option.some.injEq] at hz; subst hz; exact ⟨x, rfl, h1⟩
  | succ j => exact h4 j z (by simpa using hz)
inductive ObOuter (L : Nat) : Ob → Ob → Prop where
 | dead : ObOuter L .dead .dead
 | arr {sz cs} : ObOuter L (.arr sz cs) (.arr sz cs)
 | map {ks vs} : ObOuter L (.map ks vs) (.map ks vs)
 | cells {cs ds} : toOuters L cs = some ds → ObOuter L (.cells cs) (.cells ds)
theorem outerLam_get : ∀ {l l' : Lam}, outerLam L l = some l' → l'.length = l.length ∧ ∀ i, ObOuter L (lamOb l i) (lamOb l' i)
 | [], l', h => by simp only [outerLam, Option.some.injEq] at h; subst h; exact ⟨rfl, fun i => by simp only [lamOb, List.getElem?_nil]; exact .dead⟩
 | .dead :: l, l', h => by
  simp only [outerLam] at h
  obtain ⟨r, h1, h⟩ := opt_some.1 h
  simp only [Option.some.injEq] at h
  subst h
  obtain ⟨h2, h3⟩ := outerLam_get h1
  refine ⟨by simp [h2], fun i => ?_⟩
  cases i with
  | zero => exact .dead
  | succ i => exact h3 i
 | .arr sz cs :: l, l', h => by
  simp only [outerLam] at h
  obtain ⟨r, h1, h⟩ := opt_some.1 h
  simp only [Option.some.injEq] at h
  subst h
  obtain ⟨h2, h3⟩ := outerLam_get h1
  refine ⟨by simp [h2], fun i => ?_⟩
  cases i with
  | zero => exact .arr
  | succ i => exact h3 i
 | .map ks vs :: l, l', h => by
  simp only [outerLam] at h
  obtain ⟨r, h1, h⟩ := opt_some.1 h
  simp only [Option.some.injEq] at h
  subst h
  obtain ⟨h2, h3⟩ := outerLam_get h1
  refine ⟨by simp [h2], fun i => ?_⟩
  cases i with
  | zero => exact .map
  | succ i => exact h3 i
 | .cells cs :: l, l', h => by
  simp only [outerLam] at h
  obtain ⟨ds, h0, h⟩ := opt_some.1 h
  obtain ⟨r, h1, h⟩ := opt_some.1 h
  simp only [Option.some.injEq] at h
  subst h
  obtain ⟨h2, h3⟩ := outerLam_get h1
  refine ⟨by simp [h2], fun i => ?_⟩
  cases i with
  | zero => exact .cells h0
  | succ i => exact h3 i
theorem ObOuter.live {o o' : Ob} (h : ObOuter L o o') : isLive o' ↔ isLive o := by cases h <;> exact Iff.rfl
theorem Le_push {nl : Nat} (hn : ∀ i, i < G.n L → i < nl) : Le G w (G.push L nl) w := by
 refine ⟨fun _ _ _ h hb => ⟨h, hb⟩, fun lev i h => ⟨?_, rfl, rfl⟩, fun _ _ _ h hc => ⟨h, hc⟩, fun b cur e fz h => ⟨cur, fz, h, rfl⟩⟩
 simp only [Gh.push]
 split
 ·rename_i e; subst e; exact hn i h
 ·exact h
mutual
theorem LVR_zero {L' nl' : Nat} : ∀ (x : LV) (v : Value), LVR G w L 0 x v → LVR G w L' nl' x v
 | .cv c, v, h => by simpa [LVR] using h
 | .osl xs, v, h => by simpa [LVR] using h
 | .loc i off, v, h => by simp only [LVR] at h; omega
 | .lsl i off len, v, h => by simp only [LVR] at h; omega
 | .mloc i, v, h => by simp only [LVR] at h; omega
 | .tloc i t n, v, h => by simp only [LVR] at h; omega
 | .lclo f caps, v, h => by
  simp only [LVR] at h ⊢
  obtain ⟨vs, e, hl⟩ := h
  exact ⟨vs, e, LVRL_zero caps _ hl⟩
 | .ltup xs, v, h => by
  simp only [LVR] at h ⊢
  obtain ⟨vs, e, hl⟩ := h
  exact ⟨vs, e, LVRL_zero xs _ hl⟩
theorem LVRL_zero {L' nl' : Nat} : ∀ (xs : List LV) (vs : List Value), LVRL G w L 0 xs vs → LVRL G w L' nl' xs vs
 | [], vs, h => by simpa [LVRL] using h
 | x :: xs, vs, h => by
  simp only [LVRL] at h ⊢
  obtain ⟨v, r, e, h0, h1, h2⟩ := h
  exact ⟨v, r, e, h0, LVR_zero x v h1, LVRL_zero xs r h2⟩
end
theorem Rel.enterP {s : S} {tm cargs : Array Value} {args args' : List LV} {l : Lam} {ts : List Nat} (R : Rel G L s μ tm w) (A : ArgsR G w L s tm ts args cargs) (ha : toOuters L args = some args') (hl : outerLam L s.lam = some l) :
  Rel (G.push L s.lam.length) (L + 1) (argS args') (μ ++ [l]) cargs w ∧
  (∀ q b, OwnsAt (G.push L s.lam.length) w (argS args').fr cargs ((μ ++ [l]) ++ [(argS args').lam]) q b → (∃ j x, q = .fr j ∧ args[j]? = some x ∧ Owns x (cargs.getD j undef) b) ∨ (∃ lev i k, q = .ob lev i k ∧ OwnsAt G w s.fr tm (μ ++ [s.lam]) q b)) ∧
  (∀ lev i, isLive (obAt ((μ ++ [l]) ++ [(argS args').lam]) lev i) → isLive (obAt (μ ++ [s.lam]) lev i)) := by
 have hμ := R.lev
 obtain ⟨hll, hlg⟩ := outerLam_get hl
 obtain ⟨hal, hag⟩ := toOuters_get ha
 have hnL : ∀ i, i < G.n L → i < s.lam.length := fun i hi => by
  have := R.nL
  split at this <;> omega
 have hle : Le G w (G.push L s.lam.length) w := Le_push hnL
 have hleB : Le G w ((G.push L s.lam.length).below L) w := by
  refine ⟨fun _ _ _ h hb => ⟨h, hb⟩, fun lev i h => ⟨?_, rfl, rfl⟩, fun _ _ _ h hc => ⟨h, hc⟩, fun b cur e fz h => ⟨cur, fz, h, rfl⟩⟩
  have hlv : lev ≤ L := by
   by_cases hh : lev ≤ L
   ·exact hh
   ·have := R.ngt lev (by omega); omega
  simp only [Gh.below, if_pos hlv, Gh.push]
  split
  ·rename_i e; subst e; exact hnL i h
  ·exact h
 have hnB : ∀ i, i < s.lam.length → i < (G.push L s.lam.length).n L ∧ (G.push L s.lam.length).β L i = G.β L i ∧ (G.push L s.lam.length).sz L i = G.sz L i := fun i hi => ⟨by simp only [Gh.push, if_true]; exact hi, rfl, rfl⟩
 have hnB2 : ∀ i, i < s.lam.length → i < ((G.push L s.lam.length).below L).n L ∧ ((G.push L s.lam.length).below L).β L i = G.β L i ∧ ((G.push L s.lam.length).below L).sz L i = G.sz L i := fun i hi => ⟨by simp only [Gh.below, Nat.le_refl, Gh.push, if_true]; exact hi, rfl, rfl⟩
 have eL : ∀ i, obAt (μ ++ [s.lam]) L i = lamOb s.lam i := fun i => by rw [← hμ]; exact muOb_eq
 have eL2 : ∀ i, muOb (μ ++ [l]) L i = lamOb l i := fun i => by rw [← hμ]; exact muOb_eq
 have eO : ∀ lev i, isLive (obAt ((μ ++ [l]) ++ [(argS args').lam]) lev i) → (lev < L ∧ obAt ((μ ++ [l]) ++ [(argS args').lam]) lev i = obAt (μ ++ [s.lam]) lev i) ∨ (lev = L ∧ obAt ((μ ++ [l]) ++ [(argS args').lam]) lev i = lamOb l i) := by
  intro lev i h
  obtain ⟨h1, h2⟩ := obAt_nil h
  simp only [List.length_append, List.length_cons, List.length_nil] at h1
  by_cases hlt : lev < L
  ·refine .inl ⟨hlt, ?_⟩
   rw [show obAt ((μ ++ [l]) ++ [(argS args').lam]) lev i = muOb (μ ++ [l]) lev i from h2, muOb_lt (by omega), obAt, muOb_lt (by omega)]
  ·have : lev = L := by omega
   subst this
   exact .inr ⟨rfl, by rw [show obAt ((μ ++ [l]) ++ [(argS args').lam]) lev i = muOb (μ ++ [l]) lev i from h2, eL2]⟩
 have hlive : ∀ lev i, isLive (obAt ((μ ++ [l]) ++ [(argS args').lam]) lev i) → isLive (obAt (μ ++ [s.lam]) lev i) := by
  intro lev i h
  rcases eO lev i h with ⟨_, e⟩ | ⟨rfl, e⟩
  ·rw [← e]; exact h
  ·rw [eL]; rw [e] at h; exact (hlg i).live.1 h
 have hown : ∀ q b, OwnsAt (G.push L s.lam.length) w (argS args').fr cargs ((μ ++ [l]) ++ [(argS args').lam]) q b → (∃ j x, q = .fr j ∧ args[j]? = some x ∧ Owns x (cargs.getD j undef) b) ∨ (∃ lev i k, q = .ob lev i k ∧ OwnsAt G w s.fr tm (μ ++ [s.lam]) q b) := by
  intro q b h
  cases q with
  | fr t =>
   simp only [OwnsAt, argS_fr] at h
   cases hx : args'[t]? with
   | none => rw [hx] at h; simp [Owns] at h
   | some y =>
    rw [hx] at h
    obtain ⟨x, hx2, hxy⟩ := hag t y hx
    exact .inl ⟨t, x, rfl, hx2, ((toOuter_rel (L' := L) (nl' := 0) hle rfl hnB (A.val t x hx2) hxy).2 b).1 h⟩
  | ob lev i k =>
   have hl' := ownsAt_live h
   refine .inr ⟨lev, i, k, rfl, ?_⟩
   rcases eO lev i hl' with ⟨_, e⟩ | ⟨rfl, e⟩
   ·exact ownsAt_ob (fr' := (argS args').fr) (tm' := cargs) e rfl rfl h
   ·simp only [OwnsAt, e] at h
    split at h <;> try (exact h.elim)
    rename_i ds hds
    split at h <;> try (exact h.elim)
    rename_i y hy
    obtain ⟨cur, e', fz, hb, ho⟩ := h
    have hoo := hlg i
    rw [hds] at hoo
    generalize hq : lamOb s.lam i = q at hoo
    cases hoo with
    | cells hto =>
     rename_i cs
     obtain ⟨_, hg⟩ := toOuters_get hto
     obtain ⟨x, hx, hxy⟩ := hg k y hy
     have hob := R.lam i
     rw [hq] at hob
     simp only [ObR] at hob
     obtain ⟨cur2, e2, fz2, hb2, _, _, _, hr⟩ := hob
     have hb' : w.heap[G.β lev i]? = some (.cells cur e' fz) := hb
     rw [hb2] at hb'
     obtain ⟨rfl, rfl, rfl⟩ := (Obj.cells.injEq ..).mp (Option.some.inj hb')
     simp only [OwnsAt, eL, hq, hx]
     exact ⟨cur2, e2, fz2, hb2, ((toOuter_rel (L' := lev) (nl' := 0) hle rfl hnB (hr k x hx) hxy).2 b).1 ho⟩
 refine ⟨⟨by simp [hμ], fun t => ?_, fun i => ?_, fun lev i hlt => ?_, fun lev i lev' i' h h' e => R.inj lev i lev' i' (hlive lev i h) (hlive lev' i' h') e, fun q q' b h h' => ?_, fun q b lev i h h' e => ?_, fun lev hlt => ?_, ?_, fun lev hlt => ?_⟩, hown, hlive⟩
 ·rw [argS_fr]
  cases hx : args'[t]? with
  | none => simp [LVR, VR]
  | some y =>
   obtain ⟨x, hx2, hxy⟩ := hag t y hx
   exact (toOuter_rel hle rfl hnB (A.val t x hx2) hxy).1
 ·have : lamOb (argS args').lam i = .dead := by simp [argS, lamOb]
  rw [this]; trivial
 ·by_cases h1 : lev < L
  ·have e1 : muOb (μ ++ [l]) lev i = muOb μ lev i := muOb_lt (by omega)
   rw [e1]
   have hle2 : Le (G.below lev) w ((G.push L s.lam.length).below lev) w := hle.below lev
   exact ObR_mono hle2 (Nat.le_refl _) (fun _ h => by omega) (fun _ => ⟨rfl, rfl⟩) (fun _ _ _ _ _ _ _ _ _ _ _ => ⟨rfl, rfl⟩) (R.mu lev i h1)
  ·have : lev = L := by omega
   subst this
   rw [eL2]
   have hoo := hlg i
   have hob := R.lam i
   revert hob hoo
   generalize lamOb s.lam i = q
   generalize lamOb l i = q'
   intro hoo hob
   cases hoo with
   | dead => trivial
   | arr =>
    simp only [ObR] at hob ⊢
    obtain ⟨hk, cur, e, fz, h1, h2, h3, h4, h5⟩ := hob
    exact ⟨hk, cur, e, fz, h1, h2, h3, h4, fun j x hx => VR_mono hleB x _ (h5 j x hx)⟩
   | map =>
    simp only [ObR] at hob ⊢
    obtain ⟨es, clk, h1, h2, h3⟩ := hob
    exact ⟨es, clk, h1, h2, MapR_mono hleB h3⟩
   | cells hto =>
    obtain ⟨hln, hg⟩ := toOuters_get hto
    simp only [ObR] at hob ⊢
    obtain ⟨cur, e, fz, h1, h2, h3, h4, h5⟩ := hob
    refine ⟨cur, e, fz, h1, h2, h3, by rw [hln]; exact h4, fun j y hy => ?_⟩
    obtain ⟨x, hx, hxy⟩ := hg j y hy
    exact (toOuter_rel hleB rfl hnB2 (h5 j x hx) hxy).1
 ·rcases hown q b h with ⟨j, x, rfl, hx, hox⟩ | ⟨lev, i, k, rfl, h1⟩ <;> rcases hown q' b h' with ⟨j', x', rfl, hx', hox'⟩ | ⟨lev', i', k', rfl, h1'⟩
  ·rw [(A.own j x b hx hox).2 j' x' hx' hox']
  ·obtain ⟨t, _, ht⟩ := (A.own j x b hx hox).1
   exact absurd (R.own (.fr t) _ b ht h1') (by simp)
  ·obtain ⟨t, _, ht⟩ := (A.own j' x' b hx' hox').1
   exact absurd (R.own (.fr t) _ b ht h1) (by simp)
  ·exact R.own _ _ b h1 h1'
 ·rcases hown q b h with ⟨j, x, rfl, hx, hox⟩ | ⟨lev', i', k, rfl, h1⟩
  ·obtain ⟨t, _, ht⟩ := (A.own j x b hx hox).1
   exact R.apart (.fr t) b lev i ht (hlive lev i h') e
  ·exact R.apart _ b lev i h1 (hlive lev i h') e
 ·by_cases h1 : lev < L
  ·have : (G.push L s.lam.length).n lev = G.n lev := by simp only [Gh.push]; rw [if_neg (by omega)]
   rw [this, R.nlt lev h1]
   simp only [List.getD_eq_getElem?_getD, List.getElem?_append_left (show lev < μ.length by omega)]
  ·have : lev = L := by omega
   subst this
   subst hμ
   simp [Gh.push, hll]
 ·have h1 := R.ngt (L + 1) (by omega)
  have : (G.push L s.lam.length).n (L + 1) = G.n (L + 1) := by simp only [Gh.push]; rw [if_neg (by omega)]
  simp only [argS, Bool.false_eq_true, if_false]
  rw [this, h1]
 ·have : (G.push L s.lam.length).n lev = G.n lev := by simp only [Gh.push]; rw [if_neg (by omega)]
  rw [this]; exact R.ngt lev (by omega)
theorem Rel.mergeP {s sr : S} {tm tmr : Array Value} {T : Nat → Prop} {O' : Nat → Nat} {l' : Lam} (R : Rel G L s μ tm w)
  (hT : ∀ b, T b → ∀ t, ¬ Owns (s.fr t) (tm.getD t undef) b)
  (hlam : sr.lam = []) (Rc : Rel ((G.push L s.lam.length).withO O') (L + 1) sr (μ' ++ [l']) tmr w') (E : Ext (L + 1) T (G.push L s.lam.length) w ((G.push L s.lam.length).withO O') w' (TouchS ((G.push L s.lam.length).withO O') w' sr (μ' ++ [l']) tmr)) :
  Rel ((G.push L s.lam.length).withO O') L { s with lam := l', pushed := true } μ' tm w' ∧
  (∀ q b, OwnsAt ((G.push L s.lam.length).withO O') w' s.fr tm (μ' ++ [l']) q b → (b < w.heap.size ∧ ¬ T b ∧ OwnsAt G w s.fr tm (μ ++ [s.lam]) q b) ∨ ((∃ lev i k, q = .ob lev i k) ∧ OwnsAt ((G.push L s.lam.length).withO O') w' sr.fr tmr ((μ' ++ [l']) ++ [sr.lam]) q b)) ∧
  (∀ lev i, isLive (obAt (μ' ++ [l']) lev i) → isLive (obAt ((μ' ++ [l']) ++ [sr.lam]) lev i)) := by
 have hμ' : μ'.length = L := by have := Rc.lev; simp at this; omega
 have hnL : ∀ i, i < G.n L → i < s.lam.length := fun i hi => by
  have := R.nL
  split at this <;> omega
 have hle0 : Le G w (G.push L s.lam.length) w := Le_push hnL
 have hle := hle0.trans E.le
 have hlen : s.lam.length = l'.length := by
  have := Rc.nlt L (by omega)
  simp only [Gh.withO, Gh.push, if_true, List.getD_eq_getElem?_getD] at this
  rw [List.getElem?_append_right (by omega)] at this
  simpa [hμ'] using this
 have hfrT : ∀ t b, Owns (s.fr t) (tm.getD t undef) b → b < w.heap.size ∧ ¬ T b := fun t b hb => ⟨R.touch_lt (.inl ⟨.fr t, hb⟩), fun h => hT b h t hb⟩
 have hkeep : ∀ b, b < w.heap.size → ¬ T b → w'.heap[b]? = w.heap[b]? ∧ ((G.push L s.lam.length).withO O').O b = G.O b := fun b hb hn => E.keep b hb hn
 have eO : ∀ lev i, isLive (obAt (μ' ++ [l']) lev i) → obAt ((μ' ++ [l']) ++ [sr.lam]) lev i = obAt (μ' ++ [l']) lev i := by
  intro lev i h
  have : lev < (μ' ++ [l']).length := by
   by_cases hh : lev < (μ' ++ [l']).length
   ·exact hh
   ·simp only [obAt, muOb] at h
    rw [List.getElem?_eq_none (by omega)] at h
    exact h.elim
  exact muOb_lt this
 have hlive : ∀ lev i, isLive (obAt (μ' ++ [l']) lev i) → isLive (obAt ((μ' ++ [l']) ++ [sr.lam]) lev i) := fun lev i h => by rw [eO lev i h]; exact h
 have hown : ∀ q b, OwnsAt ((G.push L s.lam.length).withO O') w' s.fr tm (μ' ++ [l']) q b → (b < w.heap.size ∧ ¬ T b ∧ OwnsAt G w s.fr tm (μ ++ [s.lam]) q b) ∨ ((∃ lev i k, q = .ob lev i k) ∧ OwnsAt ((G.push L s.lam.length).withO O') w' sr.fr tmr ((μ' ++ [l']) ++ [sr.lam]) q b) := by
  intro q b h
  cases q with
  | fr t => exact .inl ⟨(hfrT t b h).1, (hfrT t b h).2, h⟩
  | ob lev i k => exact .inr ⟨⟨_, _, _, rfl⟩, ownsAt_ob (fr' := s.fr) (tm' := tm) (eO lev i (ownsAt_live h)).symm rfl rfl h⟩
 have hTr := E.grow
 refine ⟨⟨hμ', fun t => ?_, fun i => ?_, fun lev i hlt => ?_, fun lev i lev' i' h h' e => Rc.inj lev i lev' i' (hlive lev i h) (hlive lev' i' h') e, fun q q' b h h' => ?_, fun q b lev i h h' e => ?_, fun lev hlt => ?_, ?_, fun lev hlt => ?_⟩, hown, hlive⟩
 ·exact LVR_mono hle (by simp only; omega) (fun _ _ => ⟨rfl, rfl⟩) _ _ (fun b hb => hkeep b (hfrT t b hb).1 (hfrT t b hb).2) (R.fr t)
 ·have h1 := Rc.mu L i (by omega)
  have e1 : muOb (μ' ++ [l']) L i = lamOb l' i := by rw [← hμ']; exact muOb_eq
  rw [e1] at h1
  revert h1
  generalize lamOb l' i = q
  intro h1
  cases q with
  | dead => trivial
  | cells cs =>
   simp only [ObR] at h1 ⊢
   obtain ⟨cur, e, fz, a1, a2, a3, a4, a5⟩ := h1
   exact ⟨cur, e, fz, a1, a2, a3, a4, fun j x hx => LVR_outer x _ (a5 j x hx)⟩
  | arr kk cs =>
   simp only [ObR] at h1 ⊢
   obtain ⟨hk, cur, e, fz, a1, a2, a3, a4, a5⟩ := h1
   exact ⟨hk, cur, e, fz, a1, a2, a3, a4, fun j x hx => VR_mono (Le_below _ _ _) x _ (a5 j x hx)⟩
  | map ks vs =>
   simp only [ObR] at h1 ⊢
   obtain ⟨es, clk, a1, a2, a3⟩ := h1
   exact ⟨es, clk, a1, a2, MapR_mono (Le_below _ _ _) a3⟩
 ·have h1 := Rc.mu lev i (by omega)
  have e1 : muOb (μ' ++ [l']) lev i = muOb μ' lev i := muOb_lt (by omega)
  rw [e1] at h1
  exact h1
 ·rcases hown q b h with ⟨h1, h2, h3⟩ | ⟨⟨_, _, _, rfl⟩, h3⟩ <;> rcases hown q' b h' with ⟨h1', h2', h3'⟩ | ⟨⟨_, _, _, rfl⟩, h3'⟩
  ·exact R.own q q' b h3 h3'
  ·exfalso
   rcases hTr b (.inl ⟨_, h3'⟩) with hh | hh
   ·exact h2 hh
   ·omega
  ·exfalso
   rcases hTr b (.inl ⟨_, h3⟩) with hh | hh
   ·exact h2' hh
   ·omega
  ·exact Rc.own _ _ b h3 h3'
 ·have h3' := hlive lev i h'
  rcases hown q b h with ⟨h1, h2, h3⟩ | ⟨⟨_, _, _, rfl⟩, h3⟩
  ·rcases hTr b (.inr ⟨lev, i, h3', e⟩) with hh | hh
   ·exact h2 hh
   ·omega
  ·exact Rc.apart _ b lev i h3 h3' e
 ·have h1 := Rc.nlt lev (by omega)
  rw [h1]
  simp only [List.getD_eq_getElem?_getD, List.getElem?_append_left (show lev < μ'.length by omega)]
 ·simp only [if_true]
  simp only [Gh.withO, Gh.push, if_true]
  exact hlen
 ·simp only [Gh.withO, Gh.push]
  rw [if_neg (by omega)]
  exact R.ngt lev hlt
end
section
variable {P : Program} {W0 : World} {ρ : Rho} {α : Type} {L : Nat} {G : Gh} {w : World} {s : S} {μ : Mu} {a : Act} {o : Oper} {h : OpHint} {k : LV → S → Mu → Option α} {p : CV → S → Mu → Option α} {r : α} {K : Act → World → Prop} {Q : Exit → Act → World → Prop}
theorem popMu_some {q : Mu × Lam} (h : popMu μ = some q) : μ = q.1 ++ [q.2] := by
 unfold popMu at h
 split at h <;> simp only [Option.some.injEq, reduceCtorEq] at h
 rename_i l r e
 subst h
 have := congrArg List.reverse e
 simpa using this
theorem ArgsR.strip {ts : List Nat} {args : List LV} {cargs : Array Value} (A : ArgsR G w L s a.tmps ts args cargs) : True := trivial
theorem c_enterP {f : FuncId} {args args' : List LV} {l : Lam} {cargs : Array Value} (R : Rel G L s μ a.tmps w) (hd : ∀ d, o.dst = some d → d < a.tmps.size) (hk : KOK L G w s μ a o.dst k r K) (hpk : POK L G w s μ a p r Q)
  (hrho : ∀ f args μ out, ρ.call f args μ = some out → Meets P W0 f args μ out) (hkn : Kn W0 w (TouchS G w s μ a.tmps)) (A : ArgsR G w L s a.tmps h.take args cargs) (ha : toOuters μ.length args = some args') (hlm : outerLam μ.length s.lam = some l)
  (hrun : (∃ fn c, P.funcs[f]? = some fn ∧ fn.body = some c ∧ (fn.name == "runtime.NumGoroutine") = false) → (execOp a.eval o).run P w = .ok (.enter f cargs) w)
  (hop : callK (ρ.call f args' (μ ++ [l])) (fun v μ => opt (popMu μ) fun q => typedK P h.own o.type v fun v => k v { stripSlots h.take s with lam := q.2, pushed := true } q.1)
    (fun v μ => opt (popMu μ) fun q => p v { stripSlots h.take s with lam := q.2, pushed := true } q.1) = some r) : o.wp P a w K Q := by
 obtain ⟨out, hout, hop⟩ := opt_some.1 hop
 obtain ⟨hfn, hM⟩ := hrho _ _ _ _ hout
 have hμ := R.lev
 rw [hμ] at ha hlm
 obtain ⟨R1, E1, hO⟩ := strips_ext R h.take
 have hl := stripSlots_lam h.take s
 obtain ⟨Re, hown, hlive⟩ := R.enterP A ha hlm
 have hT : ∀ b, TouchS (G.push L s.lam.length) w (argS args') (μ ++ [l]) cargs b → ∀ t, ¬ Owns ((stripSlots h.take s).fr t) (a.tmps.getD t undef) b := by
  rintro b (⟨q, hb⟩ | ⟨lev, i, hb, rfl⟩) t ht
  ·rcases hown q b hb with ⟨j, x, rfl, hx, ho⟩ | ⟨lev, i, k, rfl, ho⟩
   ·obtain ⟨⟨u, hu, hou⟩, _⟩ := A.own j x b hx ho
    obtain ⟨a1, a2⟩ := hO (.fr t) b ht
    exact a1 u hu (R.own _ (.fr u) b a2 hou)
   ·have := R.own _ _ b (hO (.fr t) b ht).2 ho
    cases this
  ·exact R.apart _ _ lev i (hO (.fr t) _ ht).2 (hlive lev i hb) rfl
 have hT0 : ∀ b, TouchS (G.push L s.lam.length) w (argS args') (μ ++ [l]) cargs b → TouchS G w s μ a.tmps b := by
  rintro b (⟨q, hb⟩ | ⟨lev, i, hb, rfl⟩)
  ·rcases hown q b hb with ⟨j, x, rfl, hx, ho⟩ | ⟨lev, i, k, rfl, ho⟩
   ·obtain ⟨⟨u, hu, hou⟩, _⟩ := A.own j x b hx ho
    exact .inl ⟨.fr u, hou⟩
   ·exact .inl ⟨_, ho⟩
  ·exact .inr ⟨lev, i, hlive lev i hb, rfl⟩
 have hcall := hM (G.push L s.lam.length) w cargs (by rw [A.size, (toOuters_get ha).1]) (by rw [List.length_append, hμ]; exact Re) (hkn.mono hT0)
 rw [show (μ ++ [l]).length = L + 1 by simp [hμ]] at hcall
 unfold Oper.wp
 rw [hrun hfn, Oper.upon_enter]
 refine hcall.mono fun e w' hR => ?_
 have hnL : ∀ i, i < G.n L → i < s.lam.length := fun i hi => by
  have := R.nL
  split at this <;> omega
 have merge : ∀ {O' : Nat → Nat} {sr : S} {μ' : Mu} {l' : Lam} {tmr : Array Value}, sr.lam = [] → Rel ((G.push L s.lam.length).withO O') (L + 1) sr (μ' ++ [l']) tmr w' →
   Ext (L + 1) (TouchS (G.push L s.lam.length) w (argS args') (μ ++ [l]) cargs) (G.push L s.lam.length) w ((G.push L s.lam.length).withO O') w' (TouchS ((G.push L s.lam.length).withO O') w' sr (μ' ++ [l']) tmr) →
   Rel ((G.push L s.lam.length).withO O') L { stripSlots h.take s with lam := l', pushed := true } μ' a.tmps w' ∧ Ext L (TouchS G w s μ a.tmps) G w ((G.push L s.lam.length).withO O') w' (TouchS ((G.push L s.lam.length).withO O') w' { stripSlots h.take s with lam := l', pushed := true } μ' a.tmps) ∧
   (∀ b, TouchS ((G.push L s.lam.length).withO O') w' sr (μ' ++ [l']) tmr b → (TouchS G w s μ a.tmps b ∨ w.heap.size ≤ b)) ∧
   (∀ t b, OwnsAt ((G.push L s.lam.length).withO O') w' sr.fr tmr ((μ' ++ [l']) ++ [sr.lam]) (.fr t) b → (∀ q, ¬ OwnsAt ((G.push L s.lam.length).withO O') w' (stripSlots h.take s).fr a.tmps (μ' ++ [l']) q b) ∧
    ∀ lev i, isLive (obAt (μ' ++ [l']) lev i) → ((G.push L s.lam.length).withO O').β lev i ≠ b) := by
  intro O' sr μ' l' tmr hlam Rc E
  have hsl : (stripSlots h.take s).lam.length = s.lam.length := by rw [hl.1]
  obtain ⟨R2, h2, h3⟩ := R1.mergeP (O' := O') hT hlam (by rw [hsl]; exact Rc) (by rw [hsl]; exact E)
  rw [hsl] at R2 h2
  have hin : ∀ b, TouchS ((G.push L s.lam.length).withO O') w' sr (μ' ++ [l']) tmr b → (TouchS G w s μ a.tmps b ∨ w.heap.size ≤ b) := fun b hb => (E.grow b hb).imp (hT0 b) id
  refine ⟨R2, ⟨(Le_push hnL).trans E.le, E.os, E.tape, E.output, E.size, fun b hb hn => E.keep b hb fun hh => hn (hT0 b hh), fun b hb => ?_, fun lv hlv => ?_⟩, hin, fun t b hb => ⟨fun q hq => ?_, fun lev i hli e => Rc.apart _ b lev i hb (h3 lev i hli) e⟩⟩
  ·rcases hb with ⟨q, hb⟩ | ⟨lev, i, hb, rfl⟩
   ·rcases h2 q b hb with ⟨_, _, h4⟩ | ⟨_, h4⟩
    ·exact .inl (.inl ⟨q, (hO q b h4).2⟩)
    ·exact hin b (.inl ⟨q, h4⟩)
   ·exact hin _ (.inr ⟨lev, i, h3 lev i hb, rfl⟩)
  ·refine ⟨fun _ => ⟨rfl, rfl⟩, ?_⟩
   simp only [Gh.withO, Gh.push]
   rw [if_neg (by omega)]
  ·rcases h2 q b hq with ⟨h4, h5, _⟩ | ⟨⟨_, _, _, rfl⟩, h4⟩
   ·rcases E.grow b (.inl ⟨_, hb⟩) with hh | hh
    ·exact h5 hh
    ·omega
   ·have := Rc.own _ _ b hb h4
    cases this
 cases out with
 | ret v μx =>
  cases e with
  | returned cv =>
   simp only [RetR] at hR
   obtain ⟨O', Rc, E⟩ := hR
   obtain ⟨q, hq, hop2⟩ := opt_some.1 hop
   clear hop
   have hq' := popMu_some hq
   subst hq'
   obtain ⟨R2, E2, hin, hfr⟩ := merge rfl Rc E
   obtain ⟨y, hy, hyr⟩ := typedK_sound hop2
   have hv : LVR ((G.push L s.lam.length).withO O') w' (L + 1) 0 v cv := by
    have := Rc.fr 0
    simp only [argS_fr, List.getElem?_cons_zero, Option.getD_some] at this
    simpa [argS] using this
   obtain ⟨hy1, hy2⟩ := hyr ((G.push L s.lam.length).withO O') w' L q.2.length cv (LVR_zero v cv hv)
   obtain ⟨R3, E3⟩ := step_done (dst := o.dst) (v := y) (cv := cv) R2 E2 hy1 (fun b hb => by
    have hat : OwnsAt ((G.push L s.lam.length).withO O') w' (argS [v]).fr #[cv] ((q.1 ++ [q.2]) ++ [(argS [v]).lam]) (.fr 0) b := by
     have := hy2 b hb
     simpa [OwnsAt, argS_fr] using this
    exact ⟨(hfr 0 b hat).1, (hfr 0 b hat).2, hin b (.inl ⟨_, hat⟩)⟩) hd
   exact hk y _ _ cv w' _ hy R3 E3
  | panicked ch => simp [RetR] at hR
  | outgrown => simp [RetR] at hR
 | panic v μx =>
  cases e with
  | returned cv => simp [RetR] at hR
  | panicked ch =>
   simp only [RetR] at hR
   obtain ⟨O', pv, rfl, hv, Rc, E⟩ := hR
   obtain ⟨q, hq, hop2⟩ := opt_some.1 hop
   clear hop
   have hq' := popMu_some hq
   subst hq'
   obtain ⟨R2, E2, _, _⟩ := merge rfl Rc E
   exact hpk v _ _ pv w' _ hop2 R2 hv E2
  | outgrown => simp [RetR] at hR
end
end Go.Abs

set_option linter.unusedVariables false
set_option linter.unusedSimpArgs false
namespace Go.Abs
open Go Go.MapKept
section
variable {G : Gh} {w : World} {L : Nat} {P : Program}
theorem isKeyB_spec {d : TypeDesc} {v : Value} (h : isKeyB d v = true) : IsKey d v := by
 cases d <;> cases v <;> simp_all [isKeyB, IsKey]
theorem keysOK_spec {d : TypeDesc} : ∀ {ks : List Value}, keysOK d ks = true → ∀ x ∈ ks, IsKey d x
 | [], _, x, hx => by simp at hx
 | k :: r, h, x, hx => by
  simp only [keysOK] at h
  split at h <;> try (cases h; done)
  rename_i hk
  rcases List.mem_cons.1 hx with rfl | hx
  ·exact isKeyB_spec hk
  ·exact keysOK_spec h x hx
theorem sameNow_keyEq {d : TypeDesc} {a b : Value} (ha : IsKey d a) (hb : IsKey d b) : Instr.sameNow d a b = some (keyEq a b) := by
 obtain ⟨r, h1, h2⟩ := sameNow_of_keys ha hb
 rw [h1]
 congr 1
 rw [Bool.eq_iff_iff, h2]
 cases d <;> cases a <;> cases b <;> simp_all [IsKey, keyEq]
 rename_i x y
 cases x; cases y
 simp
theorem find_rel {d : TypeDesc} {k : Value} (hk : IsKey d k) : ∀ {es : List MapEntry} {ks : List Value} {vs : List CV} {i : Nat}, es.map MapEntry.key = ks → VRL G w vs (es.map MapEntry.val) → (∀ x ∈ ks, IsKey d x) →
  (mapFind ks vs k = none → Instr.findNow d k es i = some none) ∧ (∀ c, mapFind ks vs k = some c → ∃ j v, Instr.findNow d k es i = some (some (j, v)) ∧ VR G w c v)
 | [], ks, vs, i, he, hv, ho => by
  subst he
  exact ⟨fun _ => rfl, fun c hc => by simp [mapFind] at hc⟩
 | e :: es, ks, vs, i, he, hv, ho => by
  subst he
  cases vs with
  | nil => simp [VRL] at hv
  | cons c0 vs =>
   simp only [List.map_cons, VRL, List.cons.injEq] at hv
   obtain ⟨v, r, ⟨rfl, rfl⟩, h1, h2⟩ := hv
   have hs := sameNow_keyEq hk (ho e.key (by simp))
   obtain ⟨i1, i2⟩ := find_rel hk (i := i + 1) rfl h2 (fun x hx => ho x (by simp only [List.map_cons, List.mem_cons]; exact .inr hx))
   simp only [mapFind, List.map_cons, Instr.findNow, hs]
   cases keyEq k e.key with
   | true => exact ⟨fun h => by simp at h, fun c hc => by simp only [Option.some.injEq] at hc; subst hc; exact ⟨_, _, rfl, h1⟩⟩
   | false => exact ⟨i1, i2⟩
theorem idx_rel {d : TypeDesc} {k : Value} (hk : IsKey d k) : ∀ {es : List MapEntry} {i : Nat}, (∀ x ∈ es.map MapEntry.key, IsKey d x) →
  (keyIdx (es.map MapEntry.key) k = none → Instr.findNow d k es i = some none) ∧ (∀ n, keyIdx (es.map MapEntry.key) k = some n → ∃ e, es[n]? = some e ∧ e.key = k ∧ Instr.findNow d k es i = some (some (i + n, e.val)))
 | [], i, ho => ⟨fun _ => rfl, fun n hn => by simp [keyIdx] at hn⟩
 | e :: es, i, ho => by
  have hs := sameNow_keyEq hk (ho e.key (by simp))
  obtain ⟨i1, i2⟩ := idx_rel hk (es := es) (i := i + 1) (fun x hx => ho x (by simp only [List.map_cons, List.mem_cons]; exact .inr hx))
  simp only [keyIdx, List.map_cons, Instr.findNow, hs]
  cases hke : keyEq k e.key with
  | true =>
   refine ⟨fun h => by simp at h, fun n hn => ?_⟩
   simp only [Option.some.injEq] at hn
   subst hn
   refine ⟨e, rfl, ?_, rfl⟩
   have := (sameNow_of_keys hk (ho e.key (by simp)))
   obtain ⟨r, h1, h2⟩ := this
   rw [hs, hke] at h1
   simp only [Option.some.injEq] at h1
   exact (h2.1 h1.symm).symm
  | false =>
   refine ⟨fun h => i1 ?_, fun n hn => ?_⟩
   ·cases hki : keyIdx (es.map MapEntry.key) k with
    | none => rfl
    | some n => rw [hki] at h; simp [opt] at h
   ·obtain ⟨m, h1, h2⟩ := opt_some.1 hn
    simp only [Option.some.injEq] at h2
    subst h2
    obtain ⟨e', h3, h4, h5⟩ := i2 m h1
    refine ⟨e', by simpa using h3, h4, ?_⟩
    rw [h5]
    simp only [Option.some.injEq, Prod.mk.injEq, and_true]
    omega
theorem put_run {t kt et : TypeId} {d : TypeDesc} {r : Nat} {es : Array MapEntry} {clk : Nat} {k v : Value} {ks : List Value} {vs : List CV} {c : CV} (hm : P.underlying t = some (.map kt et)) (hd : P.underlying kt = some d)
  (hb : w.heap[r]? = some (.map es clk)) (hk : IsKey d k) (hM : MapR G w ks vs es) (ho : ∀ x ∈ ks, IsKey d x) :
  ∃ es' clk', (Instr.mapUpdate t (.map (some r)) k v).run P w = .ok () { w with heap := w.heap.setIfInBounds r (.map es' clk') } ∧ es'.toList.map MapEntry.key = mapKeys ks k ∧
   ∀ G' w', VRL G' w' vs (es.toList.map MapEntry.val) → VR G' w' c v → VRL G' w' (mapVals ks vs k c) (es'.toList.map MapEntry.val) := by
 obtain ⟨hk1, hv1⟩ := hM
 subst hk1
 obtain ⟨i1, i2⟩ := idx_rel hk (es := es.toList) (i := 0) ho
 cases hi : keyIdx (es.toList.map MapEntry.key) k with
 | none =>
  have hf := i1 hi
  refine ⟨es.push { key := k, val := v, born := clk }, clk + 1, ?_, ?_, fun G' w' h1 h2 => ?_⟩
  ·simp [Instr.mapUpdate, run_underlying hm, MapKept.run_getObj_map hb, MapKept.run_checkKey hd hk, MapKept.run_findKey hd hf, MapKept.run_setObj_map _ hb, Result.andThen]
  ·simp [mapKeys, hi]
  ·simp only [mapVals, hi, Array.toList_push, List.map_append, List.map_cons, List.map_nil]
   revert h1
   generalize es.toList.map MapEntry.val = l
   clear hv1
   induction vs generalizing l with
   | nil => intro h1; simp only [VRL] at h1; subst h1; simpa [VRL] using h2
   | cons x vs ih =>
    intro h1
    simp only [VRL] at h1
    obtain ⟨u, q, rfl, a1, a2⟩ := h1
    simp only [List.cons_append, VRL]
    exact ⟨u, _, rfl, a1, ih _ a2⟩
 | some n =>
  obtain ⟨e, he, hek, hf⟩ := i2 n hi
  rw [Nat.zero_add] at hf
  have he' : es[n]? = some e := by simpa using he
  refine ⟨es.modify n fun e => { e with key := k, val := v }, clk, ?_, ?_, fun G' w' h1 h2 => ?_⟩
  ·have hks : (Instr.keyThatStays (((es[n]?).map (·.key)).getD k) k).run P w = .ok k w := by
    rw [he']
    simp only [Option.map_some, Option.getD_some, hek]
    exact run_keyThatStays hk
   simp [Instr.mapUpdate, run_underlying hm, MapKept.run_getObj_map hb, MapKept.run_checkKey hd hk, MapKept.run_findKey hd hf, hks, MapKept.run_setObj_map _ hb, Result.andThen]
  ·simp only [mapKeys, hi]
   exact modify_keys n _ fun e2 h => by
    rw [he'] at h
    simp only [Option.some.injEq] at h
    subst h
    simp [hek]
  ·simp only [mapVals, hi]
   have hl : (es.modify n fun e => { e with key := k, val := v }).toList.map MapEntry.val = (es.toList.map MapEntry.val).set n v := by
    apply List.ext_getElem?
    intro j
    simp only [List.getElem?_map, Array.getElem?_toList, Array.getElem?_modify, List.getElem?_set, List.length_map, Array.length_toList]
    by_cases hnj : n = j
    ·subst hnj
     have : n < es.size := (Array.getElem?_eq_some_iff.1 he').1
     simp [he', this]
    ·simp [hnj]
   rw [hl]
   revert h1
   generalize es.toList.map MapEntry.val = l
   clear hl hv1 hf he he' i1 i2 hi
   induction vs generalizing l n with
   | nil => intro h1; simp only [VRL] at h1; subst h1; simp [VRL]
   | cons x vs ih =>
    intro h1
    simp only [VRL] at h1
    obtain ⟨u, q, rfl, a1, a2⟩ := h1
    cases n with
    | zero => simp only [List.set_cons_zero, VRL]; exact ⟨v, q, rfl, h2, a2⟩
    | succ n => simp only [List.set_cons_succ, VRL]; exact ⟨u, _, rfl, a1, ih n q a2⟩
theorem Rel.setMap {s s1 : S} {μ μ1 : Mu} {tm : Array Value} (R : Rel G L s μ tm w) {lev i : Nat} {ks ks' : List Value} {vs vs' : List CV} (hob : obAt (μ ++ [s.lam]) lev i = .map ks vs) {es es' : Array MapEntry} {clk clk' : Nat}
  (hb : w.heap[G.β lev i]? = some (.map es clk)) (hfr : s1.fr = s.fr) (hp : s1.pushed = s.pushed) (hlen : s1.lam.length = s.lam.length) (hμlen : μ1.length = μ.length) (hH : μ1 ++ [s1.lam] = muSet (μ ++ [s.lam]) lev i (.map ks' vs'))
  (hnew : ∀ w', Le G w G w' → (lev = L → MapR G w' ks' vs' es') ∧ (lev < L → MapR (G.below lev) w' ks' vs' es')) :
  let w1 : World := { w with heap := w.heap.setIfInBounds (G.β lev i) (.map es' clk') }
  Rel G L s1 μ1 tm w1 ∧ Ext L (TouchS G w s μ tm) G w G w1 (TouchS G w1 s1 μ1 tm) := by
 intro w1
 have hl : isLive (obAt (μ ++ [s.lam]) lev i) := by rw [hob]; trivial
 have hO : G.O (G.β lev i) = 0 := by
  rcases live_cases R.lev hl with ⟨h1, h2⟩ | ⟨rfl, h1, h2⟩
  ·have := R.mu lev i h1
   rw [← h2, hob] at this
   simp only [ObR] at this
   obtain ⟨_, _, _, h, _⟩ := this
   exact h
  ·have := R.lam i
   rw [← h2, hob] at this
   simp only [ObR] at this
   obtain ⟨_, _, _, h, _⟩ := this
   exact h
 have hw1 : w1.heap[G.β lev i]? = some (.map es' clk') := (heap_set hb).1
 have hblk : ∀ b, b ≠ G.β lev i → w1.heap[b]? = w.heap[b]? := fun b h => (heap_set hb).2 b h
 have hsz : w1.heap.size = w.heap.size := by simp [w1]
 have hle : Le G w G w1 := by
  refine ⟨fun b es2 clk2 h hb2 => ?_, fun _ _ h => ⟨h, rfl, rfl⟩, fun b off v h hc => ?_, fun b cur2 e2 fz2 h => ?_⟩
  ·have hne : b ≠ G.β lev i := fun e => by subst e; omega
   exact ⟨h, by rw [hblk b hne]; exact hb2⟩
  ·have hne : b ≠ G.β lev i := fun e => by subst e; omega
   refine ⟨h, ?_⟩
   rw [← hc]
   simp only [World.cell?]
   rw [hblk b hne]
  ·have hne : b ≠ G.β lev i := fun e => by subst e; rw [hb] at h; cases h
   exact ⟨cur2, fz2, by rw [hblk b hne]; exact h, rfl⟩
 have hset := muOb_set (o := Ob.map ks' vs') hl
 have hAt : ∀ l j, obAt (μ1 ++ [s1.lam]) l j = if l = lev ∧ j = i then .map ks' vs' else obAt (μ ++ [s.lam]) l j := fun l j => by rw [obAt, hH]; exact hset l j
 have hlive : ∀ l j, isLive (obAt (μ1 ++ [s1.lam]) l j) → isLive (obAt (μ ++ [s.lam]) l j) := by
  intro l j h
  rw [hAt] at h
  split at h
  ·rename_i e; rw [e.1, e.2]; exact hl
  ·exact h
 have hne : ∀ l j, isLive (obAt (μ ++ [s.lam]) l j) → ¬ (l = lev ∧ j = i) → G.β l j ≠ G.β lev i := fun l j h hn e => hn (R.inj l j lev i h hl e)
 have hownAt : ∀ l b, OwnsAt G w1 s1.fr tm (μ1 ++ [s1.lam]) l b → OwnsAt G w s.fr tm (μ ++ [s.lam]) l b := by
  intro l b h
  cases l with
  | fr t => rw [hfr] at h; exact h
  | ob l j k =>
   simp only [OwnsAt] at h
   split at h <;> try (exact h.elim)
   rename_i cs hcs
   split at h <;> try (exact h.elim)
   rename_i x hx
   obtain ⟨cur2, e2, fz2, hb2, ho⟩ := h
   rw [hAt] at hcs
   by_cases e : l = lev ∧ j = i
   ·rw [if_pos e] at hcs; cases hcs
   ·rw [if_neg e] at hcs
    have hl2 : isLive (obAt (μ ++ [s.lam]) l j) := by rw [hcs]; trivial
    rw [hblk _ (hne l j hl2 e)] at hb2
    simp only [OwnsAt, hcs, hx]
    exact ⟨cur2, e2, fz2, hb2, ho⟩
 have hownBlk : ∀ l b, OwnsAt G w s.fr tm (μ ++ [s.lam]) l b → w1.heap[b]? = w.heap[b]? ∧ G.O b = G.O b := fun l b h => ⟨hblk b fun e => R.apart l b lev i h hl e.symm, rfl⟩
 have hlvl : lev ≤ L := by rcases live_cases R.lev hl with ⟨h1, _⟩ | ⟨h1, _⟩ <;> omega
 refine ⟨⟨by rw [hμlen]; exact R.lev, fun t => ?_, fun j => ?_, fun l j hlt => ?_, fun l j l' j' h h' e' => R.inj l j l' j' (hlive l j h) (hlive l' j' h') e', fun l l' b h h' => R.own l l' b (hownAt l b h) (hownAt l' b h'), fun l b l' j h h' e' => R.apart l b l' j (hownAt l b h) (hlive l' j h') e', fun l hlt => ?_, ?_, R.ngt⟩,
  ⟨hle, rfl, rfl, rfl, by rw [hsz]; exact Nat.le_refl _, fun b hb' hn => ⟨hblk b fun e => hn (.inr ⟨lev, i, hl, e.symm⟩), rfl⟩, fun b hb' => .inl ?_, fun _ _ => ⟨fun _ => ⟨rfl, rfl⟩, rfl⟩⟩⟩
 ·rw [hfr, hlen]
  exact LVR_mono hle (Nat.le_refl _) (fun _ _ => ⟨rfl, rfl⟩) _ _ (fun b hb => hownBlk (.fr t) b hb) (R.fr t)
 ·rw [hlen]
  have e1 : obAt (μ1 ++ [s1.lam]) L j = lamOb s1.lam j := by rw [← R.lev, ← hμlen]; exact muOb_eq
  have e2 : obAt (μ ++ [s.lam]) L j = lamOb s.lam j := by rw [← R.lev]; exact muOb_eq
  rw [← e1, hAt]
  split
  ·rename_i e
   obtain ⟨rfl, rfl⟩ := e
   simp only [ObR]
   exact ⟨es', clk', hw1, hO, (hnew w1 hle).1 rfl⟩
  ·rename_i e
   rw [e2]
   refine ObR_mono hle (Nat.le_refl _) (fun _ _ => ⟨rfl, rfl⟩) (fun h => ⟨hblk _ (hne L j (by rw [e2]; exact h) e), rfl⟩) (fun cs k x cur e fz ho hx hb b' hb' => hownBlk (.ob L j k) b' ?_) (R.lam j)
   simp only [OwnsAt, e2, ho, hx]
   exact ⟨cur, e, fz, hb, hb'⟩
 ·have e1 : obAt (μ1 ++ [s1.lam]) l j = muOb μ1 l j := muOb_lt (by rw [hμlen, R.lev]; exact hlt)
  have e2 : obAt (μ ++ [s.lam]) l j = muOb μ l j := muOb_lt (by rw [R.lev]; exact hlt)
  rw [← e1, hAt]
  split
  ·rename_i e
   obtain ⟨rfl, rfl⟩ := e
   simp only [ObR]
   exact ⟨es', clk', hw1, hO, (hnew w1 hle).2 hlt⟩
  ·rename_i e
   rw [e2]
   refine ObR_mono (hle.below l) (Nat.le_refl _) (fun _ h => by omega) (fun h => ⟨hblk _ (hne l j (by rw [e2]; exact h) e), rfl⟩) (fun cs k x cur e fz ho hx hb b' hb' => hownBlk (.ob l j k) b' ?_) (R.mu l j hlt)
   simp only [OwnsAt, e2, ho, hx]
   exact ⟨cur, e, fz, hb, hb'⟩
 ·have h1 : (μ1.getD l []).length = (μ.getD l []).length := by
   have := (muSet_len (H := μ ++ [s.lam]) (lev := lev) (i := i) (o := Ob.map ks' vs')).2 l
   rw [← hH] at this
   have a1 : l < μ1.length := by rw [hμlen, R.lev]; exact hlt
   have a2 : l < μ.length := by rw [R.lev]; exact hlt
   simp only [List.getD_eq_getElem?_getD, List.getElem?_append_left a1, List.getElem?_append_left a2] at this ⊢
   exact this
  rw [h1]; exact R.nlt l hlt
 ·rw [hp, hlen]; exact R.nL
 ·rcases hb' with ⟨l, hb'⟩ | ⟨l, j, h, rfl⟩
  ·exact .inl ⟨l, hownAt l b hb'⟩
  ·exact .inr ⟨l, j, hlive l j h, rfl⟩
end
section
variable {P : Program} {ρ : Rho} {α : Type} {L : Nat} {G : Gh} {w : World} {s : S} {μ : Mu} {a : Act} {o : Oper} {h : OpHint} {k : LV → S → Mu → Option α} {p : CV → S → Mu → Option α} {r : α} {K : Act → World → Prop} {Q : Exit → Act → World → Prop}
theorem zeroCV_run {t : TypeId} {z : CV} (hz : zeroCV P t = some z) : ∃ zv, (zeroValue t).run P w = .ok zv w ∧ VR G w z zv := by
 unfold zeroCV at hz
 split at hz <;> try (simp at hz; done)
 rename_i i hi
 split at hz <;> try (simp at hz; done)
 rename_i zv hzv
 refine ⟨zv, by simp [zeroValue, typeInfo, hi, hzv], ?_⟩
 split at hz
 ·rename_i cs
  simp only [Option.some.injEq] at hz
  subst hz
  simp only [VR]
  refine ⟨cs, rfl, ?_⟩
  generalize cs.toList = l
  induction l with
  | nil => simp [VRL]
  | cons x l ih => simp only [List.map_cons, VRL]; exact ⟨x, l, rfl, by simp [VR], ih⟩
 ·simp only [Option.some.injEq] at hz
  subst hz
  simp [VR]
theorem tup_rel {nl : Nat} {c : CV} {v : Value} {b : Bool} (h : VR G w c v) : LVR G w L nl (.ltup [.cv c, .cv (.v (.bool b))]) (.tuple #[v, .bool b]) := by
 simp only [LVR]
 refine ⟨_, rfl, ?_⟩
 simp only [LVRL]
 exact ⟨v, [.bool b], rfl, by simp, by simpa [LVR] using h, .bool b, [], rfl, by simp, by simp [LVR, VR], rfl⟩
theorem res_case (R : Rel G L s μ a.tmps w) (hd : ∀ d, o.dst = some d → d < a.tmps.size) (hk : KOK L G w s μ a o.dst k r K) {ts : List Nat} {v : LV} (hno : ∀ cv b, ¬ Owns v cv b)
  (h : k v (stripSlots ts s) μ = some r) (hrun : ∃ cv, (execOp a.eval o).run P w = .ok (.value cv) w ∧ LVR G w L s.lam.length v cv) : o.wp P a w K Q := by
 obtain ⟨cv, h1, h2⟩ := hrun
 exact pure_case R hd hk h h1 h2 (fun b hb => absurd hb (hno cv b))
theorem c_typeAssert {x : Operand} {xt t : TypeId} {ok : Bool} (ho : o.op = .typeAssert x xt t ok) (R : Rel G L s μ a.tmps w) (hd : ∀ d, o.dst = some d → d < a.tmps.size) (hk : KOK L G w s μ a o.dst k r K)
  (hop : (assertK P (evA h s.fr x) t ok fun v => k v (stripSlots h.take s) μ) = some r) : o.wp P a w K Q := by
 unfold assertK at hop
 split at hop <;> try (simp at hop; done)
 rename_i d hni hu
 split at hop <;> try (simp at hop; done)
 obtain ⟨z, hz, hop2⟩ := opt_some.1 hop
 clear hop
 obtain ⟨zv, hzr, hzv⟩ := zeroCV_run (G := G) (w := w) hz
 have hno : ∀ c b (cv : Value) bl, ¬ Owns (.ltup [.cv c, .cv (.v (.bool b))]) cv bl := fun _ _ _ _ h => by simp [Owns] at h
 have hmiss : (Instr.typeAssert (a.eval x) xt t true).run P w = (match a.eval x with
   | .nilIface => .ok (.tuple #[zv, .bool false]) w
   | .iface u v => if u = t then .ok (.tuple #[v, .bool true]) w else .ok (.tuple #[zv, .bool false]) w
   | _ => (Instr.typeAssert (a.eval x) xt t true).run P w) := by
  unfold Instr.typeAssert
  cases hx : a.eval x <;> try rfl
  ·rename_i u v
   simp only [Sem.run_bind, run_underlying hu, Result.andThen_ok]
   cases d <;> first
    | (exact absurd hu (hni _))
    | (by_cases hut : u = t <;> simp [hut, hzr])
  ·simp only [Sem.run_bind, run_underlying hu, Result.andThen_ok]
   cases d <;> first
    | (exact absurd hu (hni _))
    | simp [hzr]
 split at hop2
 ·rename_i u c he
  have hv := eval_cv R he
  simp only [VR] at hv
  obtain ⟨v, e, hc⟩ := hv
  rw [e] at hmiss
  split at hop2
  ·rename_i hut
   have := Nat.eq_of_beq_eq_true hut
   subst this
   refine res_case R hd hk (hno _ _) hop2 ⟨.tuple #[v, .bool true], ?_, tup_rel hc⟩
   simp only [execOp, ho, e]
   refine run_v ?_
   rw [hmiss]
   simp
  ·rename_i hut
   refine res_case R hd hk (hno _ _) hop2 ⟨.tuple #[zv, .bool false], ?_, tup_rel hzv⟩
   simp only [execOp, ho, e]
   refine run_v ?_
   rw [hmiss]
   have : ¬ u = t := fun e => by subst e; simp [Nat.beq_refl] at hut
   simp [this]
 ·rename_i he
  have hv := eval_cv R he
  simp only [VR] at hv
  rw [hv] at hmiss
  refine res_case R hd hk (hno _ _) hop2 ⟨.tuple #[zv, .bool false], ?_, tup_rel hzv⟩
  simp only [execOp, ho, hv]
  refine run_v ?_
  rw [hmiss]
 ·simp at hop2
theorem c_makeMap {t : TypeId} (ho : o.op = .makeMap t none) (R : Rel G L s μ a.tmps w) (hd : ∀ d, o.dst = some d → d < a.tmps.size) (hk : KOK L G w s μ a o.dst k r K)
  (hop : k (.mloc (stripSlots h.take s).lam.length) { stripSlots h.take s with lam := (stripSlots h.take s).lam ++ [.map [] []] } μ = some r) : o.wp P a w K Q := by
 obtain ⟨R1, E, _⟩ := strips_ext R h.take
 obtain ⟨R2, hle, hT, hv⟩ := R1.newMap
 have E1 : Ext L (TouchS G w s μ a.tmps) G w (G.setL L (stripSlots h.take s).lam.length w.heap.size 0 (stripSlots h.take s).pushed) (w.alloc (.map #[] 0)) (TouchS (G.setL L (stripSlots h.take s).lam.length w.heap.size 0 (stripSlots h.take s).pushed) (w.alloc (.map #[] 0)) { stripSlots h.take s with lam := (stripSlots h.take s).lam ++ [.map [] []] } μ a.tmps) := by
  refine ⟨hle, rfl, rfl, rfl, by simp, fun b hb hn => ?_, fun b hb => ?_, fun l hl => setL_lev l hl⟩
  ·refine ⟨heap_alloc_old w _ hb, ?_⟩
   have : b ≠ w.heap.size := by omega
   simp [Gh.setL, this]
  ·rcases hT b hb with h1 | rfl
   ·exact E.grow b h1
   ·exact .inr (Nat.le_refl _)
 obtain ⟨R3, E3⟩ := step_done (dst := o.dst) (v := .mloc (stripSlots h.take s).lam.length) (cv := .map (some w.heap.size)) R2 E1 hv (fun b hb => by simp [Owns] at hb) hd
 refine wp_of_value ?_ (hk _ _ μ _ _ _ hop R3 E3)
 simp only [execOp, ho]
 refine run_v ?_
 simp [Instr.makeMap]
theorem keyOf_spec {t : TypeId} {q : TypeDesc × TypeId} (h : keyOf P t = some q) : ∃ kt, P.underlying t = some (.map kt q.2) ∧ P.underlying kt = some q.1 := by
 unfold keyOf at h
 split at h <;> try (simp at h; done)
 rename_i kt e hu
 obtain ⟨d, hd, h⟩ := opt_some.1 h
 simp only [Option.some.injEq] at h
 subst h
 exact ⟨kt, hu, hd⟩
theorem keyV_spec {d : TypeDesc} {x : LV} {kv : Value} {nl : Nat} {v : Value} (h : keyV d x = some kv) (hv : LVR G w L nl x v) : v = kv ∧ IsKey d kv := by
 unfold keyV at h
 split at h <;> try (simp at h; done)
 ·obtain ⟨n, h1, h2⟩ := opt_some.1 h
  simp only [Option.some.injEq] at h2
  subst h2
  rw [getInt_eq h1] at hv
  simp only [LVR, VR] at hv
  exact ⟨hv, rfl⟩
 ·obtain ⟨n, h1, h2⟩ := opt_some.1 h
  simp only [Option.some.injEq] at h2
  subst h2
  rw [getStr_eq h1] at hv
  simp only [LVR, VR] at hv
  exact ⟨hv, trivial⟩
 ·obtain ⟨n, h1, h2⟩ := opt_some.1 h
  simp only [Option.some.injEq] at h2
  subst h2
  rw [getBool_eq h1] at hv
  simp only [LVR, VR] at hv
  exact ⟨hv, trivial⟩
theorem c_mapPut {t : TypeId} {m x y : Operand} (ho : o.op = .insert t m x y ∨ o.op = .mapUpdate t m x y) (R : Rel G L s μ a.tmps w) (hd : ∀ d, o.dst = some d → d < a.tmps.size) (hk : KOK L G w s μ a o.dst k r K)
  (hop : mapPutK P t (evA h s.fr m) (evA h s.fr x) (evA h s.fr y) (stripSlots h.take s) μ k = some r) : o.wp P a w K Q := by
 obtain ⟨R1, E1, hO⟩ := strips_ext R h.take
 have hl := stripSlots_lam h.take s
 have hexec : ∀ {w' : World}, (Instr.mapUpdate t (a.eval m) (a.eval x) (a.eval y)).run P w = .ok () w' → (execOp a.eval o).run P w = .ok .skip w' := by
  intro w' hw
  rcases ho with ho | ho <;> (simp only [execOp, ho]; exact run_u hw)
 unfold mapPutK at hop
 obtain ⟨q, hq, hop⟩ := opt_some.1 hop
 obtain ⟨kt, hu, hkd⟩ := keyOf_spec hq
 obtain ⟨kv, hkv, hop⟩ := opt_some.1 hop
 obtain ⟨hkx, hkk⟩ := keyV_spec hkv (eval_rel R h x).1
 obtain ⟨c, hc, hop⟩ := opt_some.1 hop
 have hcv := getCv_rel hc (eval_rel R h y).1
 split at hop
 ·rename_i i he
  have hm := (eval_rel R h m).1
  rw [he] at hm
  simp only [LVR] at hm
  split at hop <;> try (simp at hop; done)
  rename_i ks vs hob
  obtain ⟨hg, hop⟩ := guardB_some.1 hop
  rw [hl.1] at hob
  have hobr := R.lam i
  rw [hob] at hobr
  simp only [ObR] at hobr
  obtain ⟨es, clk, hb, hO0, hM⟩ := hobr
  obtain ⟨es', clk', hrun, hkeys, hvals⟩ := put_run (P := P) (c := c) (v := a.eval y) hu hkd hb hkk hM (keysOK_spec hg)
  have hob2 : obAt (μ ++ [(stripSlots h.take s).lam]) L i = .map ks vs := by rw [hl.1, ← R.lev]; exact muOb_eq.trans hob
  obtain ⟨R2, E2⟩ := R1.setMap (s1 := { stripSlots h.take s with lam := (stripSlots h.take s).lam.set i (.map (mapKeys ks kv) (mapVals ks vs kv c)) }) (μ1 := μ) hob2 hb rfl rfl (by simp) rfl (by rw [← R.lev]; exact muSet_loc.symm) (es' := es') (clk' := clk')
   (fun w' hle => ⟨fun _ => ⟨hkeys, hvals G w' (VRL_mono hle vs _ hM.2) (VR_mono hle c _ hcv)⟩, fun e => by omega⟩)
  obtain ⟨R3, E3⟩ := step_done (dst := o.dst) (v := .cv .undef) (cv := undef) R2 (E1.trans E2) (by simp [LVR, VR]) (fun b hb => by simp [Owns] at hb) hd
  refine wp_of_skip (hexec ?_) (hk _ _ _ _ _ G hop R3 E3)
  rw [hm.2, hkx]
  exact hrun
 ·rename_i lev i he
  have hm := eval_cv R he
  simp only [VR] at hm
  split at hop <;> try (simp at hop; done)
  rename_i ks vs hob
  obtain ⟨hg, hop⟩ := guardB_some.1 hop
  simp only [Bool.and_eq_true] at hg
  have hlt : lev < μ.length := by
   by_cases hq : lev < μ.length
   ·exact hq
   ·simp only [muOb] at hob
    rw [List.getElem?_eq_none (by omega)] at hob
    simp at hob
  have hobr := R.mu lev i (by rw [← R.lev]; exact hlt)
  rw [hob] at hobr
  simp only [ObR] at hobr
  obtain ⟨es, clk, hb, hO0, hM⟩ := hobr
  obtain ⟨es', clk', hrun, hkeys, hvals⟩ := put_run (P := P) (c := c) (v := a.eval y) hu hkd hb hkk hM (keysOK_spec hg.1)
  have hob2 : obAt (μ ++ [(stripSlots h.take s).lam]) lev i = .map ks vs := (muOb_lt hlt).trans hob
  obtain ⟨R2, E2⟩ := R1.setMap (s1 := stripSlots h.take s) (μ1 := muSet μ lev i (.map (mapKeys ks kv) (mapVals ks vs kv c))) hob2 hb rfl rfl rfl muSet_len.1 (muSet_out hlt).symm (es' := es') (clk' := clk')
   (fun w' hle => ⟨fun e => by rw [R.lev] at hlt; omega, fun _ => ⟨hkeys, hvals _ w' (VRL_mono (hle.below lev) vs _ hM.2) (VR_mono (hle.below lev) c _ (VR_below c _ hg.2 hcv))⟩⟩)
  obtain ⟨R3, E3⟩ := step_done (dst := o.dst) (v := .cv .undef) (cv := undef) R2 (E1.trans E2) (by simp [LVR, VR]) (fun b hb => by simp [Owns] at hb) hd
  refine wp_of_skip (hexec ?_) (hk _ _ _ _ _ G hop R3 E3)
  rw [hm.2, hkx]
  exact hrun
 ·simp at hop
theorem mapOf_spec {x : LV} {q : List Value × List CV} {cv : Value} (R : Rel G L s μ a.tmps w) (h : mapOf x s μ = some q) (hv : LVR G w L s.lam.length x cv) :
  (q = ([], []) ∧ cv = .map none) ∨ ∃ r es clk, cv = .map (some r) ∧ w.heap[r]? = some (.map es clk) ∧ MapR G w q.1 q.2 es := by
 unfold mapOf at h
 split at h
 ·simp only [Option.some.injEq] at h
  subst h
  simp only [LVR, VR] at hv
  obtain ⟨r, es, clk, h1, h2, h3, h4, h5⟩ := hv
  exact .inr ⟨r, es, clk, h1, h2, h4, h5⟩
 ·simp only [Option.some.injEq] at h
  subst h
  simp only [LVR, VR] at hv
  exact .inl ⟨rfl, hv⟩
 ·rename_i i
  split at h <;> try (simp at h; done)
  rename_i ks vs hob
  simp only [Option.some.injEq] at h
  subst h
  simp only [LVR] at hv
  have hobr := R.lam i
  rw [hob] at hobr
  simp only [ObR] at hobr
  obtain ⟨es, clk, hb, _, hM⟩ := hobr
  exact .inr ⟨_, es, clk, hv.2, hb, hM⟩
 ·rename_i lev i
  split at h <;> try (simp at h; done)
  rename_i ks vs hob
  simp only [Option.some.injEq] at h
  subst h
  simp only [LVR, VR] at hv
  have hlt : lev < μ.length := by
   by_cases hq : lev < μ.length
   ·exact hq
   ·simp only [muOb] at hob
    rw [List.getElem?_eq_none (by omega)] at hob
    simp at hob
  have hobr := R.mu lev i (by rw [← R.lev]; exact hlt)
  rw [hob] at hobr
  simp only [ObR] at hobr
  obtain ⟨es, clk, hb, _, hM⟩ := hobr
  exact .inr ⟨_, es, clk, hv.2, hb, MapR_mono (Le_below G w lev) hM⟩
 ·simp at h
theorem c_lookup {t : TypeId} {m x : Operand} {ok : Bool} (ho : o.op = .lookup t m x ok) (R : Rel G L s μ a.tmps w) (hd : ∀ d, o.dst = some d → d < a.tmps.size) (hk : KOK L G w s μ a o.dst k r K)
  (hop : (mapGetK P t (evA h s.fr m) (evA h s.fr x) ok (stripSlots h.take s) μ fun v => k v (stripSlots h.take s) μ) = some r) : o.wp P a w K Q := by
 obtain ⟨R1, E1, hO⟩ := strips_ext R h.take
 have hl := stripSlots_lam h.take s
 unfold mapGetK at hop
 obtain ⟨q, hq, hop⟩ := opt_some.1 hop
 obtain ⟨kt, hu, hkd⟩ := keyOf_spec hq
 obtain ⟨kv, hkv, hop⟩ := opt_some.1 hop
 obtain ⟨hkx, hkk⟩ := keyV_spec hkv (eval_rel R h x).1
 obtain ⟨pq, hpq, hop⟩ := opt_some.1 hop
 obtain ⟨hg, hop⟩ := guardB_some.1 hop
 have hmv : LVR G w L (stripSlots h.take s).lam.length (evA h s.fr m) (a.eval m) := by rw [hl.1]; exact (eval_rel R h m).1
 have hmo := mapOf_spec R1 hpq hmv
 have fin : ∀ (c : CV) (v : Value) (b : Bool), VR G w c v → (Instr.lookup t (a.eval m) (a.eval x) ok).run P w = .ok (if ok then .tuple #[v, .bool b] else v) w →
   (ok = true → k (.ltup [.cv c, .cv (.v (.bool b))]) (stripSlots h.take s) μ = some r) → (ok = false → k (.cv c) (stripSlots h.take s) μ = some r) → o.wp P a w K Q := by
  intro c v b hc hrun hT hF
  cases ok with
  | true =>
   refine res_case R hd hk (fun cv bl hh => by simp [Owns] at hh) (hT rfl) ⟨.tuple #[v, .bool b], ?_, tup_rel hc⟩
   simp only [execOp, ho]
   exact run_v (by simpa using hrun)
  | false =>
   refine res_case R hd hk (fun cv bl hh => by simp [Owns] at hh) (hF rfl) ⟨v, ?_, by simpa [LVR] using hc⟩
   simp only [execOp, ho]
   exact run_v (by simpa using hrun)
 have runs : ∀ (es : Array MapEntry), (a.eval m = .map none ∧ es = #[] ∨ ∃ r clk, a.eval m = .map (some r) ∧ w.heap[r]? = some (.map es clk)) → MapR G w pq.1 pq.2 es → o.wp P a w K Q := by
  intro es hes hM
  obtain ⟨f1, f2⟩ := find_rel (G := G) (w := w) hkk (i := 0) hM.1 hM.2 (keysOK_spec hg)
  have hnone : Instr.findNow q.1 kv es.toList 0 = some none → ∀ v, (zeroValue q.2).run P w = .ok v w → (Instr.lookup t (a.eval m) (a.eval x) ok).run P w = .ok (if ok then .tuple #[v, .bool false] else v) w := by
   intro hf v hz
   rcases hes with ⟨e1, rfl⟩ | ⟨r, clk, e1, hb⟩
   ·simp [Instr.lookup, run_underlying hu, e1, hkx, MapKept.run_checkKey hkd hkk, MapKept.run_findKey hkd hf, hz]
   ·simp [Instr.lookup, run_underlying hu, e1, hkx, MapKept.run_getObj_map hb, MapKept.run_checkKey hkd hkk, MapKept.run_findKey hkd hf, hz]
  have hsome : ∀ j v, Instr.findNow q.1 kv es.toList 0 = some (some (j, v)) → (Instr.lookup t (a.eval m) (a.eval x) ok).run P w = .ok (if ok then .tuple #[v, .bool true] else v) w := by
   intro j v hf
   rcases hes with ⟨e1, rfl⟩ | ⟨r, clk, e1, hb⟩
   ·simp [Instr.lookup, run_underlying hu, e1, hkx, MapKept.run_checkKey hkd hkk, MapKept.run_findKey hkd hf]
   ·simp [Instr.lookup, run_underlying hu, e1, hkx, MapKept.run_getObj_map hb, MapKept.run_checkKey hkd hkk, MapKept.run_findKey hkd hf]
  unfold optE at hop
  cases hfd : mapFind pq.1 pq.2 kv with
  | none =>
   rw [hfd] at hop
   obtain ⟨z, hz, hop⟩ := opt_some.1 hop
   obtain ⟨zv, hzr, hzv⟩ := zeroCV_run (G := G) (w := w) hz
   exact fin z zv false hzv (hnone (f1 hfd) zv hzr) (fun e => by subst e; exact hop) (fun e => by subst e; exact hop)
  | some c =>
   rw [hfd] at hop
   obtain ⟨j, v, hf, hcv⟩ := f2 c hfd
   unfold typedC at hop
   obtain ⟨c', hc', hcr⟩ := typedL_sound hop
   exact fin c' v true (hcr G w L 0 v (by simpa [LVR] using hcv)) (hsome j v hf) (fun e => by subst e; exact hc') (fun e => by subst e; exact hc')
 rcases hmo with ⟨e1, e2⟩ | ⟨r, es, clk, e1, hb, hM⟩
 ·exact runs #[] (.inl ⟨e2, rfl⟩) (by rw [e1]; exact ⟨rfl, by simp [VRL]⟩)
 ·exact runs es (.inr ⟨r, clk, e1, hb⟩) hM
end
end Go.Abs

set_option linter.unusedVariables false
set_option linter.unusedSimpArgs false
namespace Go.Abs
open Go
section
variable {P : Program} {W0 : World} {ρ : Rho} {α : Type} {L : Nat} {G : Gh} {w : World} {s : S} {μ : Mu} {a : Act} {o : Oper} {h : OpHint} {k : LV → S → Mu → Option α} {p : CV → S → Mu → Option α} {r : α} {K : Act → World → Prop} {Q : Exit → Act → World → Prop}
def CallsOK (P : Program) (W0 : World) (ρ : Rho) : Prop := ∀ f args μ out, ρ.call f args μ = some out → Meets P W0 f args μ out
theorem run_call {c : Call} {fx : Operand} {f : FuncId} {vs : Array Value} (ho : o.op = .call c) (hc : c.callee = .value fx) (he : a.eval fx = .func (.func f) #[] vs)
  (hfn : ∃ fn cd, P.funcs[f]? = some fn ∧ fn.body = some cd ∧ (fn.name == "runtime.NumGoroutine") = false) :
  (execOp a.eval o).run P w = .ok (.enter f (c.args.toList.map a.eval ++ vs.toList).toArray) w := by
 obtain ⟨fn, cd, h1, h2, h3⟩ := hfn
 have e : (c.args.toList.map a.eval ++ vs.toList).toArray = c.args.map a.eval ++ vs := by
  apply Array.ext'
  simp
 rw [e]
 simp only [execOp, ho, resolve, hc, he, Deferred.ofValue, Sem.run_bind, Sem.run_pure, Result.andThen_ok, invoke, callFunc, run_program, h1, h3, h2, Option.isNone_some, Bool.false_eq_true, if_false, Array.empty_append]
theorem c_call {c : Call} {fx : Operand} (ho : o.op = .call c) (hc : c.callee = .value fx) (R : Rel G L s μ a.tmps w) (hd : ∀ d, o.dst = some d → d < a.tmps.size) (hk : KOK L G w s μ a o.dst k r K) (hpk : POK L G w s μ a p r Q)
  (hrho : CallsOK P W0 ρ) (hkn : Kn W0 w (TouchS G w s μ a.tmps)) {f : FuncId} {caps : List LV} (hdis : distinctT c.args.toList = true) {vs : Array Value} (he : a.eval fx = .func (.func f) #[] vs) (hcaps : LVRL G w L s.lam.length caps vs.toList)
  (hop : enterK P ρ h o.type f (c.args.toList.map (evA h s.fr) ++ caps) (stripSlots h.take s) μ k p = some r) : o.wp P a w K Q := by
 have A := args_rel R (h := h) hdis hcaps
 have hl := stripSlots_lam h.take s
 unfold enterK at hop
 split at hop
 ·obtain ⟨hg, hop2⟩ := guardB_some.1 hop
  simp only [Bool.and_eq_true, Bool.not_eq_true'] at hg
  rw [hl.2] at hg
  exact c_enterU R hd hk hpk hrho hkn hg.1 hg.2 A (run_call ho hc he) hop2
 ·obtain ⟨args', ha, hop2⟩ := opt_some.1 hop
  obtain ⟨l, hlm, hop3⟩ := opt_some.1 hop2
  rw [hl.1] at hlm
  exact c_enterP R hd hk hpk hrho hkn A ha hlm (run_call ho hc he) hop3
theorem opK1_sound (R : Rel G L s μ a.tmps w) (hd : ∀ d, o.dst = some d → d < a.tmps.size) (hk : KOK L G w s μ a o.dst k r K) (hpk : POK L G w s μ a p r Q) (hrho : CallsOK P W0 ρ) (hkn : Kn W0 w (TouchS G w s μ a.tmps))
  (hop : opK1 P ρ h o s μ k p = some r) : o.wp P a w K Q := by
 unfold opK1 at hop
 dsimp only at hop
 split at hop
 ·exact c_move (.inl (by assumption)) R hd hk hop
 ·exact c_move (.inr (by assumption)) R hd hk hop
 ·exact c_pick (by assumption) R hd hk hop
 ·exact c_alloc (by assumption) R hd hk hop
 ·exact c_box (by assumption) R hd hk hop
 ·exact c_build (by assumption) R hd hk hop
 ·split at hop <;> try (simp at hop; done)
  obtain ⟨sz, h1, hop2⟩ := opt_some.1 hop
  obtain ⟨h2, hop3⟩ := guardB_some.1 hop2
  obtain ⟨zc, h3, hop4⟩ := opt_some.1 hop3
  obtain ⟨ps, h4, hop5⟩ := opt_some.1 hop4
  obtain ⟨xs, h5, hop6⟩ := opt_some.1 hop5
  obtain ⟨h6, hop7⟩ := guardB_some.1 hop6
  obtain ⟨h7, hop8⟩ := guardB_some.1 hop7
  clear hop hop2 hop3 hop4 hop5 hop6 hop7
  rw [Bool.and_eq_true] at h7
  exact c_buildSlice (by assumption) R hd hk (by assumption) h1 h2 h3 h4 h5 (Nat.eq_of_beq_eq_true h6) (Nat.le_of_ble_eq_true h7.2) h7.1 hop8
 ·exact c_load (by assumption) R hd hk hop
 ·exact c_store (by assumption) R hd hk hop
 ·exact c_nilCheck (by assumption) R hd hk hop
 ·exact c_binOp (by assumption) R hd hk hop
 ·exact c_unOp (by assumption) R hd hk hop
 ·refine c_convert (by assumption) R hd hk hop fun e l h1 h2 h3 h4 h5 h6 => c_strBytes (by assumption) R hd hk h1 h2 h3 h4 h5 h6
 ·split at hop <;> try (simp at hop; done)
  rename_i hni hu
  exact c_makeInterface (by assumption) hu (fun ms e => hni ms (by first | exact e | rw [hu, e])) R hd hk hop
 ·split at hop <;> try (simp at hop; done)
  split at hop <;> try (simp at hop; done)
  exact c_makeFunc (by assumption) (by assumption) R hd hk hop
 ·split at hop <;> try (simp at hop; done)
  exact c_slice (by assumption) R hd hk hop
 ·exact c_fieldAddr (by assumption) R hd hk hop
 ·exact c_field (by assumption) R hd hk hop
 ·exact c_indexAddr (by assumption) R hd hk hop
 ·exact c_index (by assumption) R hd hk hop
 ·exact c_extract (by assumption) R hd hk hop
 ·split at hop <;> try (simp at hop; done)
  exact c_panic (by assumption) R hpk (by assumption) hop
 ·exact c_typeAssert (by assumption) R hd hk hop
 ·split at hop <;> try (simp at hop; done)
  exact c_makeMap (by assumption) R hd hk hop
 ·exact c_mapPut (.inl (by assumption)) R hd hk hop
 ·exact c_mapPut (.inr (by assumption)) R hd hk hop
 ·exact c_lookup (by assumption) R hd hk hop
 ·split at hop
  ·split at hop
   ·split at hop <;> try (simp at hop; done)
    exact c_len (by assumption) (by assumption) (by assumption) (by assumption) R hd hk hop
   ·split at hop <;> try (simp at hop; done)
    rename_i c hc hb x y t xt hx ht
    exact c_append (ts := [xt]) (by assumption) (by assumption) hx ht R hd hk (by simp) hop
   ·split at hop <;> try (simp at hop; done)
    exact c_max (by assumption) (by assumption) (by assumption) R hd hk hop
   ·split at hop <;> try (simp at hop; done)
    exact c_min (by assumption) (by assumption) (by assumption) R hd hk hop
   ·simp at hop
  ·obtain ⟨hdis, hop2⟩ := guardB_some.1 hop
   clear hop
   split at hop2
   ·rename_i f caps he
    have hv := eval_cv R he
    simp only [VR] at hv
    obtain ⟨vs, e, hl⟩ := hv
    refine c_call (by assumption) (by assumption) R hd hk hpk hrho hkn hdis e ?_ hop2
    generalize vs.toList = vl at hl
    clear hop2 he e
    induction caps generalizing vl with
    | nil => simpa [LVRL, VRL] using hl
    | cons c caps ih =>
     simp only [VRL] at hl
     obtain ⟨v, r, rfl, h1, h2⟩ := hl
     simp only [List.map_cons, LVRL]
     exact ⟨v, r, rfl, by simp, by simpa [LVR] using h1, ih r h2⟩
   ·rename_i f caps he
    have hv := fun x (e : evA h s.fr x = .lclo f caps) => e ▸ (eval_rel R h x).1
    replace hv := hv _ he
    simp only [LVR] at hv
    obtain ⟨vs, e, hl⟩ := hv
    exact c_call (by assumption) (by assumption) R hd hk hpk hrho hkn hdis e hl hop2
   ·simp at hop2
  ·simp at hop
 ·simp at hop
theorem KOK.ext {G1 : Gh} {s1 : S} {μ1 : Mu} (E : Ext L (TouchS G w s μ a.tmps) G w G1 w (TouchS G1 w s1 μ1 a.tmps)) {dst : Option Tmp} (hk : KOK L G w s μ a dst k r K) : KOK L G1 w s1 μ1 a dst k r K :=
 fun v s' μ' cv w' G' h R E' => hk v s' μ' cv w' G' h R (E.trans E')
theorem POK.ext {G1 : Gh} {s1 : S} {μ1 : Mu} (E : Ext L (TouchS G w s μ a.tmps) G w G1 w (TouchS G1 w s1 μ1 a.tmps)) (hk : POK L G w s μ a p r Q) : POK L G1 w s1 μ1 a p r Q :=
 fun v s' μ' cv w' G' h R hv E' => hk v s' μ' cv w' G' h R hv (E.trans E')
theorem opK_sound (R : Rel G L s μ a.tmps w) (hd : ∀ d, o.dst = some d → d < a.tmps.size) (hk : KOK L G w s μ a o.dst k r K) (hpk : POK L G w s μ a p r Q) (hrho : CallsOK P W0 ρ) (hkn : Kn W0 w (TouchS G w s μ a.tmps))
  (hop : opK P ρ h o s μ k p = some r) : o.wp P a w K Q := by
 unfold opK at hop
 obtain ⟨s1, h1, hop⟩ := opt_some.1 hop
 obtain ⟨s2, h2, hop⟩ := opt_some.1 hop
 obtain ⟨G1, R1, E1⟩ := freezes_sound h1 R
 obtain ⟨G2, R2, E2⟩ := freezeArrs_sound h2 R1
 exact opK1_sound R2 hd (hk.ext (E1.trans E2)) (hpk.ext (E1.trans E2)) hrho (hkn.ext (E1.trans E2)) hop
end
end Go.Abs

set_option linter.unusedVariables false
set_option linter.unusedSimpArgs false
namespace Go.Abs
open Go
section
variable {P : Program} {W0 : World} {ρ : Rho} {α : Type} {L : Nat} {H : Hints} {rg : Nat} {ops : Array Oper} {r : α} {Q : Exit → Act → World → Prop}
structure Keep where
 ds : List Deferred
 kp : Option (Nat × Value)
def Keep.at (K : Keep) (a : Act) : Prop := a.defers = K.ds ∧ ∀ t v, K.kp = some (t, v) → a.tmps.getD t undef = v
def Keep.slot (K : Keep) : Option Nat := match K.kp with | some q => some q.1 | none => none
def Keep.lets (K : Keep) (d : Nat) : Prop := ∀ t v, K.kp = some (t, v) → d ≠ t
theorem Keep.put {K : Keep} {a : Act} (h : K.at a) {dst : Option Tmp} {v : Value} (hd : ∀ d, dst = some d → K.lets d) : K.at (a.put dst v) := by
 cases dst with
 | none => exact h
 | some d =>
  refine ⟨h.1, fun t u e => ?_⟩
  have hne := hd d rfl t u e
  rw [← h.2 t u e]
  simp only [Act.put, Array.getD_eq_getD_getElem?, Array.getElem?_setIfInBounds]
  rw [if_neg hne]
def EndOK {α : Type} (L : Nat) (G : Gh) (w : World) (T : Nat → Prop) (n : Nat) (ds : Keep) (k : S → Mu → Option α) (r : α) (Q : Exit → Act → World → Prop) : Prop :=
 ∀ s μ a w' G', k s μ = some r → Rel G' L s μ a.tmps w' → Ext L T G w G' w' (TouchS G' w' s μ a.tmps) → a.tmps.size = n → ds.at a → Q .normal a w'
def PanicOK {α : Type} (L : Nat) (G : Gh) (w : World) (T : Nat → Prop) (n : Nat) (ds : Keep) (p : CV → S → Mu → Option α) (r : α) (Q : Exit → Act → World → Prop) : Prop :=
 ∀ v s μ pv a w' G', p v s μ = some r → Rel G' L s μ a.tmps w' → VR G' w' v pv → Ext L T G w G' w' (TouchS G' w' s μ a.tmps) → a.tmps.size = n → ds.at a → Q (.panic [{ v := pv, recovered := false }]) a w'
theorem upd_self (g : Fr) (t : Nat) (v : LV) (h : g t = v) : upd g t v = g := by
 funext u
 by_cases hu : u = t
 ·subst hu; rw [upd_same, h]
 ·rw [upd_other g v hu]
theorem S.set_self (s : S) (t : Nat) (v : LV) (h : s.fr t = v) : s.set t v = s := by
 unfold S.set
 rw [upd_self s.fr t v h]
theorem put_size (a : Act) (d : Option Tmp) (v : Value) : (a.put d v).tmps.size = a.tmps.size ∧ (a.put d v).defers = a.defers := by
 cases d <;> simp [Act.put]
theorem yielded_of {G : Gh} {w : World} {s : S} {μ : Mu} {a : Act} (R : Rel G L s μ a.tmps w) {j d : Nat} {b : Bool} (hd : dstOf ops j = some d) (hlt : ∀ (i : Nat) (o : Oper), ops[i]? = some o → ∀ d, o.dst = some d → d < a.tmps.size)
  (hb : getBool (s.fr d) = some b) : yielded ops a.tmps j = some b := by
 have hv := R.fr d
 rw [getBool_eq hb] at hv
 simp only [LVR, VR] at hv
 unfold dstOf at hd
 cases ho : ops[j]? with
 | none => rw [ho] at hd; simp at hd
 | some o =>
  rw [ho] at hd
  have hd : o.dst = some d := hd
  have hsz := hlt j o ho d hd
  have : a.tmps[d]? = some (.bool b) := by
   rw [← hv, Array.getD_eq_getD_getElem?, Array.getElem?_eq_getElem hsz]
   rfl
  simp [yielded, ho, hd, this]
theorem getGuard_bool {v : LV} {b : Bool} (h : getGuard v = some (some b)) : getBool v = some b := by
 unfold getGuard at h
 split at h
 ·simpa [getBool] using h
 ·simp at h
 ·simp at h
theorem getGuard_none {v : LV} (h : getGuard v = some none) : ∃ cs, v = .cv (.v (.tuple cs)) := by
 unfold getGuard at h
 split at h
 ·simp at h
 ·exact ⟨_, rfl⟩
 ·simp at h
theorem yielded_none {G : Gh} {w : World} {s : S} {μ : Mu} {a : Act} (R : Rel G L s μ a.tmps w) {j d : Nat} (hd : dstOf ops j = some d) (hlt : ∀ (i : Nat) (o : Oper), ops[i]? = some o → ∀ d, o.dst = some d → d < a.tmps.size)
  (hb : getGuard (s.fr d) = some none) : yielded ops a.tmps j = none := by
 have hv := R.fr d
 obtain ⟨cs, e⟩ := getGuard_none hb
 rw [e] at hv
 simp only [LVR, VR] at hv
 unfold dstOf at hd
 cases ho : ops[j]? with
 | none => rw [ho] at hd; simp at hd
 | some o =>
  rw [ho] at hd
  have hd : o.dst = some d := hd
  have hsz := hlt j o ho d hd
  have : a.tmps[d]? = some (.tuple cs) := by
   rw [← hv, Array.getD_eq_getD_getElem?, Array.getElem?_eq_getElem hsz]
   rfl
  simp [yielded, ho, hd, this]
theorem Rel.skip {G : Gh} {w : World} {s : S} {μ : Mu} {a : Act} (R : Rel G L s μ a.tmps w) (dst : Option Tmp) (hd : ∀ d, dst = some d → d < a.tmps.size) :
  Rel G L (s.put dst (.cv (.v undef))) μ (a.put dst undef).tmps w ∧ Ext L (TouchS G w s μ a.tmps) G w G w (TouchS G w (s.put dst (.cv (.v undef))) μ (a.put dst undef).tmps) :=
 step_done R (Ext.refl G w fun _ h => h) (by simp [LVR, VR]) (fun b hb => by simp [Owns] at hb) hd
theorem opsK_sound (hrho : CallsOK P W0 ρ) {T : Nat → Prop} {G0 : Gh} {w0 : World} {n : Nat} {ds : Keep} {k : S → Mu → Option α} {p : CV → S → Mu → Option α} (hlt : ∀ (i : Nat) (o : Oper), ops[i]? = some o → ∀ d, o.dst = some d → d < n ∧ ds.lets d)
  (hkn : Kn W0 w0 T) (hk : EndOK L G0 w0 T n ds k r Q) (hp : PanicOK L G0 w0 T n ds p r Q) :
  ∀ (l : List Nat) {G : Gh} {w : World} {s : S} {μ : Mu} {a : Act}, opsK P ρ H rg ops l s μ k p = some r → Rel G L s μ a.tmps w → Ext L T G0 w0 G w (TouchS G w s μ a.tmps) → a.tmps.size = n → ds.at a → wpOps P ops Q l a w
 | [], G, w, s, μ, a, h, R, E, hn, hds => by
  simp only [opsK] at h
  simp only [wpOps]
  exact hk s μ a w G h R E hn hds
 | i :: rest, G, w, s, μ, a, h, R, E, hn, hds => by
  simp only [opsK] at h
  simp only [wpOps]
  cases ho : ops[i]? with
  | none => rw [ho] at h; simp at h
  | some o =>
   rw [ho] at h
   simp only at h ⊢
   have hlt' : ∀ d, o.dst = some d → d < a.tmps.size := fun d hd => by rw [hn]; exact (hlt i o ho d hd).1
   have hlt2 : ∀ (i : Nat) (o : Oper), ops[i]? = some o → ∀ d, o.dst = some d → d < a.tmps.size := fun i o ho d hd => by rw [hn]; exact (hlt i o ho d hd).1
   have hkok : KOK L G w s μ a o.dst (fun v s μ => opsK P ρ H rg ops rest (s.put o.dst v) μ k p) r (wpOps P ops Q rest) := by
    intro v s' μ' cv w' G' h' R' E'
    exact opsK_sound hrho hlt hkn hk hp rest h' R' (E.trans E') (by rw [(put_size a o.dst cv).1]; exact hn) (Keep.put hds fun d hd => (hlt i o ho d hd).2)
   have hpok : POK L G w s μ a p r Q := fun v s' μ' pv w' G' h' R' hv E' => hp v s' μ' pv a w' G' h' R' hv (E.trans E') hn hds
   cases hg : o.guard with
   | none =>
    rw [hg] at h
    have hw : Region.wanted o (yielded ops a.tmps) = true := by simp [Region.wanted, hg]
    rw [if_pos hw]
    exact .inl (opK_sound R hlt' hkok hpok hrho (hkn.ext E) h)
   | some g =>
    rw [hg] at h
    simp only at h
    obtain ⟨d, hd, h⟩ := opt_some.1 h
    obtain ⟨q, hq, h⟩ := opt_some.1 h
    cases q with
    | none =>
     have hy := yielded_none R hd hlt2 hq
     obtain ⟨j, want⟩ := g
     simp only at hd hy h
     have hw : ¬ Region.wanted o (yielded ops a.tmps) = true := by simp [Region.wanted, hg, hy]
     rw [if_neg hw]
     obtain ⟨R2, E2⟩ := R.skip o.dst hlt'
     exact opsK_sound hrho hlt hkn hk hp rest h R2 (E.trans E2) (by rw [(put_size a o.dst undef).1]; exact hn) (Keep.put hds fun d hd => (hlt i o ho d hd).2)
    | some b =>
    have hb := getGuard_bool hq
    have hy := yielded_of R hd hlt2 hb
    have hbe := getBool_eq hb
    obtain ⟨j, want⟩ := g
    simp only at hd hy h
    cases b with
    | true =>
     rw [S.set_self s d _ hbe] at h
     simp only [cond_true] at h
     cases want with
     | true =>
      have hw : Region.wanted o (yielded ops a.tmps) = true := by simp [Region.wanted, hg, hy]
      rw [if_pos hw]
      exact .inl (opK_sound R hlt' hkok hpok hrho (hkn.ext E) h)
     | false =>
      have hw : ¬ Region.wanted o (yielded ops a.tmps) = true := by simp [Region.wanted, hg, hy]
      rw [if_neg hw]
      obtain ⟨R2, E2⟩ := R.skip o.dst hlt'
      exact opsK_sound hrho hlt hkn hk hp rest h R2 (E.trans E2) (by rw [(put_size a o.dst undef).1]; exact hn) (Keep.put hds fun d hd => (hlt i o ho d hd).2)
    | false =>
     rw [S.set_self s d _ hbe] at h
     simp only [cond_false] at h
     cases want with
     | false =>
      have hw : Region.wanted o (yielded ops a.tmps) = true := by simp [Region.wanted, hg, hy]
      rw [if_pos hw]
      exact .inl (opK_sound R hlt' hkok hpok hrho (hkn.ext E) h)
     | true =>
      have hw : ¬ Region.wanted o (yielded ops a.tmps) = true := by simp [Region.wanted, hg, hy]
      rw [if_neg hw]
      obtain ⟨R2, E2⟩ := R.skip o.dst hlt'
      exact opsK_sound hrho hlt hkn hk hp rest h R2 (E.trans E2) (by rw [(put_size a o.dst undef).1]; exact hn) (Keep.put hds fun d hd => (hlt i o ho d hd).2)
theorem dstOK_spec {n : Nat} {ds : Keep} {d : Nat} (h : dstOK n ds.slot d = true) : d < n ∧ ds.lets d := by
 unfold dstOK at h
 split at h
 ·rename_i hb
  refine ⟨by simpa [Nat.blt_eq] using hb, fun t v e hdt => ?_⟩
  simp only [Keep.slot, e] at h
  subst hdt
  simp [Nat.beq_refl] at h
 ·cases h
theorem opsDst_get {n : Nat} {ds : Keep} : ∀ {l : List Oper}, opsDst n ds.slot l = true → ∀ {i : Nat} {o : Oper}, l[i]? = some o → ∀ d, o.dst = some d → d < n ∧ ds.lets d
 | [], _, i, o, h, d, _ => by simp at h
 | x :: r, hl, i, o, h, d, hd => by
  have key : opsDst n ds.slot r = true ∧ ∀ d, x.dst = some d → d < n ∧ ds.lets d := by
   simp only [opsDst] at hl
   split at hl
   ·rename_i e; exact ⟨hl, fun d hd => by rw [e] at hd; cases hd⟩
   ·rename_i d' e
    split at hl
    ·rename_i hb; exact ⟨hl, fun d hd => by rw [e] at hd; injection hd with hd; subst hd; exact dstOK_spec hb⟩
    ·simp at hl
  cases i with
  | zero => simp only [List.getElem?_cons_zero, Option.some.injEq] at h; subst h; exact key.2 d hd
  | succ i => exact opsDst_get key.1 (by simpa using h) d hd
end
end Go.Abs

set_option linter.unusedVariables false
set_option linter.unusedSimpArgs false
namespace Go.Abs
open Go
section
variable {α β γ : Type}
theorem opt_assoc {x : Option α} {f : α → Option β} {k : β → Option γ} : opt (opt x f) k = opt x fun a => opt (f a) k := by
 cases x <;> rfl
theorem opt_guard {b : Bool} {x : Option β} {k : β → Option γ} : opt (guardB b x) k = guardB b (opt x k) := by
 cases b <;> rfl
theorem opt_none {k : β → Option γ} : opt (none : Option β) k = none := rfl
theorem opt_some' {a : β} {k : β → Option γ} : opt (some a) k = k a := rfl
theorem nat_cellK {d : TypeDesc} {x : LV} {f : CV → Option β} {k : β → Option γ} : opt (cellK d x f) k = cellK d x fun c => opt (f c) k := by
 unfold cellK
 cases d <;> exact opt_assoc
theorem nat_cellsK : ∀ {ds : List TypeDesc} {cs : List CV} {f : List CV → Option β} {k : β → Option γ}, opt (cellsK ds cs f) k = cellsK ds cs fun c => opt (f c) k
 | [], cs, f, k => by unfold cellsK; exact opt_assoc
 | d :: ds, cs, f, k => by
  unfold cellsK
  simp only [opt_assoc, nat_cellK, nat_cellsK]
variable {P : Program}
theorem nat_typedL {t : TypeId} {x : LV} {f : CV → Option β} {k : β → Option γ} : opt (typedL P t x f) k = typedL P t x fun c => opt (f c) k := by
 unfold typedL
 cases isAggT P t
 ·cases P.underlying t
  ·rfl
  ·exact nat_cellK
 ·simp only [opt_assoc, nat_cellsK]
theorem nat_typed1 {own : Bool} {t : TypeId} {x : LV} {f : LV → Option β} {k : β → Option γ} : opt (typed1 P own t x f) k = typed1 P own t x fun c => opt (f c) k := by
 unfold typed1
 cases own
 ·exact nat_typedL
 ·exact opt_assoc
theorem nat_typedTup : ∀ {ts : List TypeId} {xs : List LV} {f : List LV → Option β} {k : β → Option γ}, opt (typedTup P ts xs f) k = typedTup P ts xs fun c => opt (f c) k
 | [], xs, f, k => by unfold typedTup; exact opt_assoc
 | t :: ts, xs, f, k => by
  unfold typedTup
  simp only [opt_assoc, nat_typed1, nat_typedTup]
theorem nat_typedK {own : Bool} {t : TypeId} {x : LV} {f : LV → Option β} {k : β → Option γ} : opt (typedK P own t x f) k = typedK P own t x fun c => opt (f c) k := by
 unfold typedK
 split
 ·simp only [opt_assoc, nat_typedTup]
 ·exact nat_typed1
theorem nat_typedIf {b : Bool} {t : TypeId} {x : LV} {f : LV → Option β} {k : β → Option γ} : opt (typedIf P b t x f) k = typedIf P b t x fun c => opt (f c) k := by
 cases b with
 | true => exact nat_typedK
 | false => rfl
theorem nat_loadK {h : OpHint} {t : TypeId} {a : LV} {s : S} {μ : Mu} {f : LV → S → Mu → Option β} {k : β → Option γ} : opt (loadK P h t a s μ f) k = loadK P h t a s μ fun v s μ => opt (f v s μ) k := by
 unfold loadK
 split
 ·split
  ·rfl
  ·split
   ·simp only [opt_assoc, nat_typedIf]
   ·exact opt_assoc
 ·split
  ·simp only [opt_assoc]
  ·simp only [opt_assoc]
   congr; funext q
   split <;> simp only [opt_assoc, nat_typedK]
 ·rfl
theorem nat_storeK {h : OpHint} {t : TypeId} {a v : LV} {s : S} {μ : Mu} {f : LV → S → Mu → Option β} {k : β → Option γ} : opt (storeK P h t a v s μ f) k = storeK P h t a v s μ fun v s μ => opt (f v s μ) k := by
 unfold storeK
 split
 ·split
  ·rfl
  ·simp only [obWriteK_eq]
   exact opt_assoc
 ·split
  ·rfl
  ·simp only [opt_assoc, opt_guard]
 ·rfl
theorem nat_fieldAddrK {h : OpHint} {t : TypeId} {a : LV} {i : Nat} {f : LV → Option β} {k : β → Option γ} : opt (fieldAddrK P h t a i f) k = fieldAddrK P h t a i fun c => opt (f c) k := by
 unfold fieldAddrK
 simp only [opt_assoc]
 congr; funext q
 split
 ·rfl
 ·split
  ·simp only [opt_assoc, nat_cellsK, opt_guard]
  ·simp only [opt_assoc]
 ·rfl
theorem nat_indexAddrK {h : OpHint} {t : TypeId} {a : LV} {i : Int} {f : LV → Option β} {k : β → Option γ} : opt (indexAddrK P h t a i f) k = indexAddrK P h t a i fun c => opt (f c) k := by
 unfold indexAddrK typedC
 split
 ·simp only [opt_assoc]
  congr; funext q
  split
  ·exact opt_guard
  ·simp only [opt_assoc, nat_typedL, opt_guard]
  ·split <;> simp only [opt_assoc, nat_typedL, opt_guard]
  ·rfl
 ·simp only [opt_assoc]
  congr; funext q
  split
  ·exact opt_guard
  ·split <;> simp only [opt_assoc, opt_guard]
  ·rfl
 ·rfl
theorem nat_indexK {t : TypeId} {a : LV} {i : Int} {f : LV → Option β} {k : β → Option γ} : opt (indexK P t a i f) k = indexK P t a i fun c => opt (f c) k := by
 unfold indexK typedC
 split
 ·simp only [opt_assoc]
 ·split
  ·simp only [opt_assoc, opt_guard, nat_typedL]
  ·rfl
 ·rfl
theorem nat_boundK {ev : Operand → LV} {x : Option Operand} {d : Int} {f : Int → Option β} {k : β → Option γ} : opt (boundK ev x d f) k = boundK ev x d fun c => opt (f c) k := by
 unfold boundK
 cases x
 ·rfl
 ·exact opt_assoc
theorem nat_sliceK {t : TypeId} {x : LV} {lo hi : Option Operand} {ev : Operand → LV} {f : LV → Option β} {k : β → Option γ} : opt (sliceK P t x lo hi ev f) k = sliceK P t x lo hi ev fun c => opt (f c) k := by
 unfold sliceK
 split
 ·simp only [opt_assoc, nat_boundK]
 ·simp only [opt_assoc]
  congr; funext q
  split <;> simp only [opt_assoc, nat_boundK, opt_guard, opt_none]
 ·rfl
theorem nat_appendK {h : OpHint} {t : TypeId} {xt : Option TypeId} {x y : LV} {s : S} {μ : Mu} {f : LV → S → Mu → Option β} {k : β → Option γ} : opt (appendK P h t xt x y s μ f) k = appendK P h t xt x y s μ fun v s μ => opt (f v s μ) k := by
 unfold appendK
 split
 ·cases xt
  ·simp only [opt_assoc, opt_guard, opt_none]
  ·simp only [opt_assoc, opt_guard]
   congr; funext q; congr; funext q; congr; funext q
   split <;> simp only [opt_assoc, opt_guard, opt_none]
 ·rfl
theorem nat_convertK {h : OpHint} {src dst : TypeId} {x : LV} {s : S} {μ : Mu} {f : LV → S → Mu → Option β} {k : β → Option γ} : opt (convertK P h src dst x s μ f) k = convertK P h src dst x s μ fun v s μ => opt (f v s μ) k := by
 unfold convertK
 split
 ·split <;> simp only [opt_assoc, opt_none]
 ·split
  ·simp only [opt_assoc]
  ·split
   ·split
    ·split <;> simp only [opt_assoc, opt_guard, opt_none]
    ·simp only [opt_assoc]
   ·rfl
  ·rfl
 ·split
  ·split
   ·simp only [opt_assoc, opt_guard]
    congr; funext q
    congr
    split <;> rfl
   ·rfl
  ·rfl
 ·rfl
theorem opt_optE {x : Option α} {f : α → Option β} {g : Option β} {k : β → Option γ} : opt (optE x f g) k = optE x (fun a => opt (f a) k) (opt g k) := by cases x <;> rfl
theorem nat_mapPutK {t : TypeId} {m x y : LV} {s : S} {μ : Mu} {f : LV → S → Mu → Option β} {k : β → Option γ} : opt (mapPutK P t m x y s μ f) k = mapPutK P t m x y s μ fun v s μ => opt (f v s μ) k := by
 unfold mapPutK
 simp only [opt_assoc]
 congr; funext q; congr; funext q2; congr; funext q3
 split
 ·split <;> first | exact opt_guard | rfl
 ·split <;> first | exact opt_guard | rfl
 ·rfl
theorem nat_mapGetK {t : TypeId} {m x : LV} {ok : Bool} {s : S} {μ : Mu} {f : LV → Option β} {k : β → Option γ} : opt (mapGetK P t m x ok s μ f) k = mapGetK P t m x ok s μ fun v => opt (f v) k := by
 unfold mapGetK typedC
 cases ok <;> simp only [opt_assoc, opt_guard, opt_optE, nat_typedL]
theorem nat_assertK {x : LV} {t : TypeId} {ok : Bool} {f : LV → Option β} {k : β → Option γ} : opt (assertK P x t ok f) k = assertK P x t ok fun v => opt (f v) k := by
 unfold assertK
 split
 ·rfl
 ·split
  ·rfl
  ·simp only [opt_assoc]
   congr; funext z
   split
   ·split <;> rfl
   ·rfl
   ·rfl
 ·rfl
theorem nat_binK {op : BinOp} {t : TypeId} {x y : Operand} {a b : LV} {f : CV → Option β} {k : β → Option γ} : opt (binK P op t x y a b f) k = binK P op t x y a b fun c => opt (f c) k := by
 unfold binK
 split
 ·simp only [opt_assoc]
 ·simp only [opt_assoc, opt_guard]
variable {ρ : Rho}
theorem nat_callK {x : Option Out} {f : LV → Mu → Option β} {p : CV → Mu → Option β} {k : β → Option γ} : opt (callK x f p) k = callK x (fun v μ => opt (f v μ) k) fun v μ => opt (p v μ) k := by
 unfold callK
 rw [opt_assoc]
 congr; funext q
 cases q <;> rfl
theorem nat_enterK {h : OpHint} {t : TypeId} {g : FuncId} {args : List LV} {s : S} {μ : Mu} {f : LV → S → Mu → Option β} {p : CV → S → Mu → Option β} {k : β → Option γ} :
  opt (enterK P ρ h t g args s μ f p) k = enterK P ρ h t g args s μ (fun v s μ => opt (f v s μ) k) fun v s μ => opt (p v s μ) k := by
 unfold enterK
 split
 ·simp only [opt_guard, nat_callK, nat_typedK]
 ·simp only [opt_assoc, nat_callK, nat_typedK]
theorem nat_opK1 {h : OpHint} {o : Oper} {s : S} {μ : Mu} {f : LV → S → Mu → Option β} {p : CV → S → Mu → Option β} {k : β → Option γ} :
  opt (opK1 P ρ h o s μ f p) k = opK1 P ρ h o s μ (fun v s μ => opt (f v s μ) k) fun v s μ => opt (p v s μ) k := by
 unfold opK1
 dsimp only
 split
 ·rfl
 ·rfl
 ·exact opt_assoc
 ·exact opt_assoc
 ·exact opt_assoc
 ·simp only [opt_assoc]
 ·split
  ·simp only [opt_assoc, opt_guard]
   congr; funext q; congr; funext q; congr; funext q; congr; funext q
   congr
   split <;> rfl
  ·rfl
 ·exact nat_loadK
 ·exact nat_storeK
 ·simp only [opt_assoc, opt_guard]
 ·exact nat_binK
 ·exact opt_assoc
 ·exact nat_convertK
 ·split <;> simp only [opt_assoc, opt_none]
 ·split
  ·split <;> rfl
  ·rfl
 ·split
  ·exact nat_sliceK
  ·rfl
 ·exact nat_fieldAddrK
 ·exact opt_assoc
 ·simp only [opt_assoc, nat_indexAddrK]
 ·simp only [opt_assoc, nat_indexK]
 ·simp only [opt_assoc]
 ·split <;> rfl
 ·exact nat_assertK
 ·split <;> rfl
 ·exact nat_mapPutK
 ·exact nat_mapPutK
 ·exact nat_mapGetK
 ·split
  ·split
   ·split <;> simp only [opt_assoc, opt_none]
   ·split
    ·exact nat_appendK
    ·rfl
   ·split <;> simp only [opt_assoc, opt_none]
   ·split <;> simp only [opt_assoc, opt_none]
   ·rfl
  ·rw [opt_guard]
   congr
   split
   ·exact nat_enterK
   ·exact nat_enterK
   ·rfl
  ·rfl
 ·rfl
def step1 (P : Program) (ρ : Rho) (h : OpHint) (o : Oper) (s : S) (μ : Mu) : Option (LV × S × Mu) := opK1 P ρ h o s μ (fun v s μ => some (v, s, μ)) fun _ _ _ => none
theorem opK1_step {h : OpHint} {o : Oper} {s : S} {μ : Mu} {f : LV → S → Mu → Option β} : opK1 P ρ h o s μ f (fun _ _ _ => none) = opt (step1 P ρ h o s μ) fun q => f q.1 q.2.1 q.2.2 := by
 unfold step1
 rw [nat_opK1]
 rfl
end
end Go.Abs

set_option linter.unusedVariables false
set_option linter.unusedSimpArgs false
namespace Go.Abs
open Go
def Ag (h : OpHint) (o : Oper) (s t : S) : Prop := ∀ x, x ∈ o.op.operands.toList → evA h t.fr x = evA h s.fr x
section
variable {P : Program} {ρ : Rho} {h : OpHint} {o : Oper} {s t : S} {μ ν : Mu}
theorem partsCV_congr {ev ev' : Operand → LV} : ∀ {l : List (Nat × Operand)}, (∀ q ∈ l, ev' q.2 = ev q.2) → partsCV ev' l = partsCV ev l
 | [], _ => rfl
 | q :: r, hq => by
  simp only [partsCV]
  rw [hq q (by simp), partsCV_congr fun x hx => hq x (List.mem_cons_of_mem _ hx)]
def Plain (P : Program) (ρ : Rho) (h : OpHint) (o : Oper) (s t : S) (μ ν : Mu) : Prop := step1 P ρ h o t ν = opt (step1 P ρ h o s μ) fun q => some (q.1, stripSlots h.take t, ν)
theorem pl_move {x : Operand} (ho : o.op = .move x ∨ o.op = .assign x) (ha : Ag h o s t) : Plain P ρ h o s t μ ν := by
 have e : evA h t.fr x = evA h s.fr x := ha x (by rcases ho with ho | ho <;> simp [ho, Op.operands])
 rcases ho with ho | ho <;> simp only [Plain, step1, opK1, ho, e, opt_some']
theorem pl_pick {c x y : Operand} (ho : o.op = .pick c x y) (ha : Ag h o s t) : Plain P ρ h o s t μ ν := by
 have e1 := ha c (by simp [ho, Op.operands])
 have e2 := ha x (by simp [ho, Op.operands])
 have e3 := ha y (by simp [ho, Op.operands])
 simp only [Plain, step1, opK1, ho, e1, e2, e3, opt_assoc, opt_some']
theorem pl_build {ty : TypeId} {parts : Array (Nat × Operand)} (ho : o.op = .build ty parts) (ha : Ag h o s t) : Plain P ρ h o s t μ ν := by
 have e : partsCV (evA h t.fr) parts.toList = partsCV (evA h s.fr) parts.toList := partsCV_congr fun q hq => ha q.2 (by simp only [ho, Op.operands]; simp; exact ⟨q.1, by simpa using hq⟩)
 simp only [Plain, step1, opK1, ho, e, opt_assoc, opt_some']
theorem pl_nilCheck {x : Operand} (ho : o.op = .nilCheck x) (ha : Ag h o s t) : Plain P ρ h o s t μ ν := by
 have e := ha x (by simp [ho, Op.operands])
 simp only [Plain, step1, opK1, ho, e, opt_assoc, opt_guard, opt_some']
theorem pl_binOp {op : BinOp} {ty ty' : TypeId} {x y : Operand} (ho : o.op = .binOp op ty x y ty') (ha : Ag h o s t) : Plain P ρ h o s t μ ν := by
 have e1 := ha x (by simp [ho, Op.operands])
 have e2 := ha y (by simp [ho, Op.operands])
 simp only [Plain, step1, opK1, ho, e1, e2, nat_binK, opt_some']
theorem pl_unOp {op : UnOp} {ty : TypeId} {x : Operand} (ho : o.op = .unOp op ty x) (ha : Ag h o s t) : Plain P ρ h o s t μ ν := by
 have e := ha x (by simp [ho, Op.operands])
 simp only [Plain, step1, opK1, ho, e, opt_assoc, opt_some']
theorem pl_makeInterface {ty : TypeId} {x : Operand} (ho : o.op = .makeInterface ty x) (ha : Ag h o s t) : Plain P ρ h o s t μ ν := by
 have e := ha x (by simp [ho, Op.operands])
 simp only [Plain, step1, opK1, ho, e]
 split <;> simp only [opt_assoc, opt_some', opt_none]
theorem pl_fieldAddr {ty : TypeId} {x : Operand} {f : Nat} (ho : o.op = .fieldAddr ty x f) (ha : Ag h o s t) : Plain P ρ h o s t μ ν := by
 have e := ha x (by simp [ho, Op.operands])
 simp only [Plain, step1, opK1, ho, e, nat_fieldAddrK, opt_some']
theorem pl_field {ty : TypeId} {x : Operand} {f : Nat} (ho : o.op = .field ty x f) (ha : Ag h o s t) : Plain P ρ h o s t μ ν := by
 have e := ha x (by simp [ho, Op.operands])
 simp only [Plain, step1, opK1, ho, e, opt_assoc, opt_some']
theorem pl_indexAddr {ty : TypeId} {x y : Operand} (ho : o.op = .indexAddr ty x y) (ha : Ag h o s t) : Plain P ρ h o s t μ ν := by
 have e1 := ha x (by simp [ho, Op.operands])
 have e2 := ha y (by simp [ho, Op.operands])
 simp only [Plain, step1, opK1, ho, e1, e2, opt_assoc, nat_indexAddrK, opt_some']
theorem pl_index {ty : TypeId} {x y : Operand} (ho : o.op = .index ty x y) (ha : Ag h o s t) : Plain P ρ h o s t μ ν := by
 have e1 := ha x (by simp [ho, Op.operands])
 have e2 := ha y (by simp [ho, Op.operands])
 simp only [Plain, step1, opK1, ho, e1, e2, opt_assoc, nat_indexK, opt_some']
theorem pl_extract {x : Operand} {i : Nat} (ho : o.op = .extract x i) (ha : Ag h o s t) : Plain P ρ h o s t μ ν := by
 have e := ha x (by simp [ho, Op.operands])
 simp only [Plain, step1, opK1, ho, e, opt_assoc, opt_some']
theorem boundK_congr {β : Type} {ev ev' : Operand → LV} {x : Option Operand} {d : Int} {f : Int → Option β} (h : ∀ y, x = some y → ev' y = ev y) : boundK ev' x d f = boundK ev x d f := by
 cases x with
 | none => rfl
 | some y => simp only [boundK, h y rfl]
theorem sliceK_congr {β : Type} {ty : TypeId} {x : LV} {lo hi : Option Operand} {ev ev' : Operand → LV} {f : LV → Option β} (h1 : ∀ y, lo = some y → ev' y = ev y) (h2 : ∀ y, hi = some y → ev' y = ev y) : sliceK P ty x lo hi ev' f = sliceK P ty x lo hi ev f := by
 unfold sliceK
 simp only [boundK_congr h1, boundK_congr h2]
theorem pl_slice {ty : TypeId} {x : Operand} {lo hi mx : Option Operand} (ho : o.op = .slice ty x lo hi mx) (ha : Ag h o s t) : Plain P ρ h o s t μ ν := by
 have e := ha x (by simp [ho, Op.operands])
 have e1 : ∀ y, lo = some y → evA h t.fr y = evA h s.fr y := fun y hy => ha y (by simp [ho, Op.operands, hy])
 have e2 : ∀ y, hi = some y → evA h t.fr y = evA h s.fr y := fun y hy => ha y (by simp [ho, Op.operands, hy])
 simp only [Plain, step1, opK1, ho, e]
 cases mx with
 | none => simp only [sliceK_congr e1 e2, nat_sliceK, opt_some']
 | some m => rfl
theorem pl_buildSlice {ty : TypeId} {len : Nat} {parts : Array (Nat × Operand)} (ho : o.op = .buildSlice ty len parts) (hr : h.arr = false) (ha : Ag h o s t) : Plain P ρ h o s t μ ν := by
 have e : partsCV (evA h t.fr) parts.toList = partsCV (evA h s.fr) parts.toList := partsCV_congr fun q hq => ha q.2 (by simp only [ho, Op.operands]; simp; exact ⟨q.1, by simpa using hq⟩)
 simp only [Plain, step1, opK1, ho, e, hr]
 split <;> simp only [opt_assoc, opt_guard, opt_some', opt_none]
theorem pl_makeFunc {fn : Fn} {first captured : Array Operand} (ho : o.op = .makeFunc fn first captured) (ha : Ag h o s t) : Plain P ρ h o s t μ ν := by
 have e : (captured.toList.map fun x => strip1 (evA h t.fr x)) = captured.toList.map fun x => strip1 (evA h s.fr x) := List.map_congr_left fun x hx => by rw [ha x (by simp [ho, Op.operands]; right; simpa using hx)]
 simp only [Plain, step1, opK1, ho, e]
 split
 ·split <;> rfl
 ·rfl
theorem appendK_frame {β : Type} {ty : TypeId} {xt : Option TypeId} {x y : LV} {f : LV → S → Mu → Option β} : appendK P h ty xt x y t ν f = appendK P h ty xt x y s μ fun v _ _ => f v t ν := by
 unfold appendK
 rfl
theorem pl_builtin {c : Call} {b : Builtin} (ho : o.op = .call c) (hc : c.callee = .builtin b) (ha : Ag h o s t) : Plain P ρ h o s t μ ν := by
 have hm : ∀ x, x ∈ c.args.toList → evA h t.fr x = evA h s.fr x := fun x hx => ha x (by simp [ho, Op.operands, Call.operands, hc]; simpa using hx)
 simp only [Plain, step1, opK1, ho, hc]
 split
 ·split
  ·rename_i x ty hx _
   rw [hm x (by rw [hx]; simp)]
   simp only [opt_assoc, opt_some']
  ·rfl
 ·split
  ·rename_i x y ty xt hx _
   rw [hm x (by rw [hx]; simp), hm y (by rw [hx]; simp), nat_appendK]
   simp only [opt_some']
   exact appendK_frame
  ·rfl
 ·split
  ·rename_i x y hx
   rw [hm x (by rw [hx]; simp), hm y (by rw [hx]; simp)]
   simp only [opt_assoc, opt_some']
  ·rfl
 ·split
  ·rename_i x y hx
   rw [hm x (by rw [hx]; simp), hm y (by rw [hx]; simp)]
   simp only [opt_assoc, opt_some']
  ·rfl
 ·rfl
end
end Go.Abs

set_option linter.unusedVariables false
set_option linter.unusedSimpArgs false
namespace Go.Abs
open Go
section
variable {P : Program} {ρ : Rho} {h : OpHint} {o : Oper} {s t s' : S} {μ ν μ' : Mu} {v : LV}
def Cond (k : Kind) (s t : S) (μ ν : Mu) : Prop :=
 match k with
 | .plain => True
 | .rd => ∀ i, isLive (lamOb s.lam i) → lamOb t.lam i = lamOb s.lam i
 | .wr => t.lam = s.lam
 | .ap => t.lam.length = s.lam.length
 | .look => ν = μ ∧ t.pushed = s.pushed
 | .ou => ν = μ ∧ t.pushed = s.pushed
 | .all => t.lam = s.lam ∧ t.pushed = s.pushed ∧ ν = μ
def Eff (P : Program) (ρ : Rho) (h : OpHint) (o : Oper) (k : Kind) (s t : S) (μ ν : Mu) (v : LV) (s' : S) (μ' : Mu) : Prop :=
 match k with
 | .plain => s' = stripSlots h.take s ∧ μ' = μ ∧ step1 P ρ h o t ν = some (v, stripSlots h.take t, ν)
 | .rd => s' = stripSlots h.take s ∧ μ' = μ ∧ step1 P ρ h o t ν = some (v, stripSlots h.take t, ν)
 | .wr => ∃ lam', s' = { stripSlots h.take s with lam := lam' } ∧ μ' = μ ∧ step1 P ρ h o t ν = some (v, { stripSlots h.take t with lam := lam' }, ν)
 | .ap => ∃ ob, s' = { stripSlots h.take s with lam := s.lam ++ [ob] } ∧ μ' = μ ∧ step1 P ρ h o t ν = some (v, { stripSlots h.take t with lam := t.lam ++ [ob] }, ν)
 | .look => s' = stripSlots h.take s ∧ μ' = μ ∧ step1 P ρ h o t ν = some (v, stripSlots h.take t, ν)
 | .ou => s' = stripSlots h.take s ∧ step1 P ρ h o t ν = some (v, stripSlots h.take t, μ')
 | .all => s'.fr = (stripSlots h.take s).fr ∧ step1 P ρ h o t ν = some (v, { s' with fr := (stripSlots h.take t).fr }, μ')
theorem Ag.self : Ag h o s s := fun _ _ => rfl
theorem eff_plain (hp : ∀ t ν, Ag h o s t → Plain P ρ h o s t μ ν) (ha : Ag h o s t) (hst : step1 P ρ h o s μ = some (v, s', μ')) : Eff P ρ h o .plain s t μ ν v s' μ' := by
 have h1 := hp s μ Ag.self
 have h2 := hp t ν ha
 unfold Plain at h1 h2
 rw [hst, opt_some'] at h1 h2
 simp only [Option.some.injEq, Prod.mk.injEq, true_and] at h1
 exact ⟨h1.1, h1.2, h2⟩
theorem obRead_live {ty : TypeId} {ob : Ob} {off : Nat} {w : LV} (h : obRead P ty ob off = some w) : isLive ob := by
 unfold obRead at h
 obtain ⟨_, _, h⟩ := opt_some.1 h
 cases ob <;> first | trivial | simp [obRead1] at h
theorem eff_load {ty : TypeId} {x : Operand} (ho : o.op = .load ty x) (ha : Ag h o s t) (hc : Cond (kindOf h o) s t μ ν) (hst : step1 P ρ h o s μ = some (v, s', μ')) : Eff P ρ h o (kindOf h o) s t μ ν v s' μ' := by
 have e := ha x (by simp [ho, Op.operands])
 have l1 := stripSlots_lam h.take s
 have l2 := stripSlots_lam h.take t
 have hs1 : step1 P ρ h o s μ = loadK P h ty (evA h s.fr x) (stripSlots h.take s) μ fun v s μ => some (v, s, μ) := by simp only [step1, opK1, ho]
 have ht1 : step1 P ρ h o t ν = loadK P h ty (evA h s.fr x) (stripSlots h.take t) ν fun v s μ => some (v, s, μ) := by simp only [step1, opK1, ho, e]
 rw [hs1] at hst
 unfold Eff
 rw [ht1]
 clear hs1 ht1 e ha
 simp only [kindOf, ho] at hc ⊢
 unfold loadK at hst ⊢
 generalize evA h s.fr x = q at hst ⊢
 cases hou : h.outer with
 | false =>
  simp only [hou] at hc hst ⊢
  cases hce : h.cell with
  | false =>
   simp only [hce, Cond] at hc hst ⊢
   cases q with
   | loc i off =>
    dsimp only at hst ⊢
    obtain ⟨w, h1, h2⟩ := opt_some.1 hst
    obtain ⟨y, h3, _⟩ := typedIf_sound h2
    simp only [Option.some.injEq, Prod.mk.injEq] at h3
    obtain ⟨rfl, rfl, rfl⟩ := h3
    refine ⟨rfl, rfl, opt_some.2 ⟨w, ?_, ?_⟩⟩
    ·rw [l1.1] at h1
     rw [l2.1, hc i (obRead_live h1)]
     exact h1
    ·have : (typedIf P h.arr ty w fun v => some (v, stripSlots h.take t, ν)) = opt (typedIf P h.arr ty w fun v => some (v, stripSlots h.take s, μ)) fun q => some (q.1, stripSlots h.take t, ν) := by
      rw [nat_typedIf]
      rfl
     rw [this, h2]
     rfl
   | cv c =>
    dsimp only at hst ⊢
    obtain ⟨cs, h1, h2⟩ := opt_some.1 hst
    obtain ⟨c', h3, h4⟩ := opt_some.1 h2
    simp only [Option.some.injEq, Prod.mk.injEq] at h4
    obtain ⟨rfl, rfl, rfl⟩ := h4
    exact ⟨rfl, rfl, opt_some.2 ⟨cs, h1, opt_some.2 ⟨c', h3, rfl⟩⟩⟩
   | osl _ => cases hst
   | lsl _ _ _ => cases hst
   | lclo _ _ => cases hst
   | mloc _ => cases hst
   | tloc _ _ _ => cases hst
   | ltup _ => cases hst
  | true =>
   simp only [hce, Cond] at hc hst ⊢
   cases q with
   | loc i off =>
    dsimp only at hst ⊢
    obtain ⟨w, h1, h2⟩ := opt_some.1 hst
    simp only [Option.some.injEq, Prod.mk.injEq] at h2
    obtain ⟨rfl, rfl, rfl⟩ := h2
    refine ⟨_, rfl, rfl, opt_some.2 ⟨w, ?_, ?_⟩⟩
    ·rw [l2.1, hc, ← l1.1]; exact h1
    ·rw [l2.1, hc, ← l1.1]
   | cv c =>
    dsimp only at hst ⊢
    obtain ⟨cs, h1, h2⟩ := opt_some.1 hst
    obtain ⟨c', h3, h4⟩ := opt_some.1 h2
    simp only [Option.some.injEq, Prod.mk.injEq] at h4
    obtain ⟨rfl, rfl, rfl⟩ := h4
    refine ⟨s.lam, by rw [← l1.1], rfl, opt_some.2 ⟨cs, h1, opt_some.2 ⟨c', h3, ?_⟩⟩⟩
    rw [← hc, ← l2.1]
   | osl _ => cases hst
   | lsl _ _ _ => cases hst
   | lclo _ _ => cases hst
   | mloc _ => cases hst
   | tloc _ _ _ => cases hst
   | ltup _ => cases hst
 | true =>
  have hc' : ν = μ ∧ t.pushed = s.pushed := by
   cases hce : h.cell <;> simpa only [hou, hce, Cond] using hc
  clear hc
  obtain ⟨rfl, hpu⟩ := hc'
  simp only [hou] at hst ⊢
  cases q with
  | cv c =>
   dsimp only at hst ⊢
   obtain ⟨q, h1, hst⟩ := opt_some.1 hst
   have k1 : s' = stripSlots h.take s ∧ (h.cell = false → μ' = ν) := by
    cases hce : h.cell with
    | false =>
     simp only [hce] at hst
     obtain ⟨w, h2, hst⟩ := opt_some.1 hst
     obtain ⟨y, h3, _⟩ := typedK_sound hst
     simp only [Option.some.injEq, Prod.mk.injEq] at h3
     exact ⟨h3.2.1.symm, fun _ => h3.2.2.symm⟩
    | true =>
     simp only [hce] at hst
     obtain ⟨w, h2, hst⟩ := opt_some.1 hst
     obtain ⟨y, h3, _⟩ := typedK_sound hst
     simp only [Option.some.injEq, Prod.mk.injEq] at h3
     exact ⟨h3.2.1.symm, fun h => by cases h⟩
   have k2 : loadK P h ty (LV.cv c) (stripSlots h.take t) ν (fun v s μ => some (v, s, μ)) = some (v, stripSlots h.take t, μ') := by
    simp only [loadK, hou]
    refine opt_some.2 ⟨q, h1, ?_⟩
    have key : ∀ {own : Bool} {w : LV} {m : Mu}, (typedK P own ty w fun v => some (v, stripSlots h.take s, m)) = some (v, s', μ') → (typedK P own ty w fun v => some (v, stripSlots h.take t, m)) = some (v, stripSlots h.take t, μ') := by
     intro own w m hk
     have : (typedK P own ty w fun v => some (v, stripSlots h.take t, m)) = opt (typedK P own ty w fun v => some (v, stripSlots h.take s, m)) fun q => some (q.1, stripSlots h.take t, q.2.2) := by
      rw [nat_typedK]
      rfl
     rw [this, hk]
     rfl
    cases hce : h.cell with
    | false =>
     simp only [hce] at hst ⊢
     obtain ⟨w, h2, hst⟩ := opt_some.1 hst
     exact opt_some.2 ⟨w, h2, key hst⟩
    | true =>
     simp only [hce] at hst ⊢
     obtain ⟨w, h2, hst⟩ := opt_some.1 hst
     exact opt_some.2 ⟨w, h2, key hst⟩
   simp only [loadK, hou] at k2
   cases hce : h.cell with
   | false =>
    have e := k1.2 hce
    subst e
    exact ⟨k1.1, rfl, by simpa only [hce] using k2⟩
   | true => exact ⟨k1.1, by simpa only [hce] using k2⟩
  | loc i off => cases hst
  | osl _ => cases hst
  | lsl _ _ _ => cases hst
  | lclo _ _ => cases hst
  | mloc _ => cases hst
  | tloc _ _ _ => cases hst
  | ltup _ => cases hst
theorem eff_store {ty : TypeId} {x y : Operand} (ho : o.op = .store ty x y) (ha : Ag h o s t) (hc : Cond (kindOf h o) s t μ ν) (hst : step1 P ρ h o s μ = some (v, s', μ')) : Eff P ρ h o (kindOf h o) s t μ ν v s' μ' := by
 have e1 := ha x (by simp [ho, Op.operands])
 have e2 := ha y (by simp [ho, Op.operands])
 have l1 := stripSlots_lam h.take s
 have l2 := stripSlots_lam h.take t
 have hs1 : step1 P ρ h o s μ = storeK P h ty (evA h s.fr x) (evA h s.fr y) (stripSlots h.take s) μ fun v s μ => some (v, s, μ) := by simp only [step1, opK1, ho]
 have ht1 : step1 P ρ h o t ν = storeK P h ty (evA h s.fr x) (evA h s.fr y) (stripSlots h.take t) ν fun v s μ => some (v, s, μ) := by simp only [step1, opK1, ho, e1, e2]
 rw [hs1] at hst
 unfold Eff
 rw [ht1]
 clear hs1 ht1 e1 e2 ha
 simp only [kindOf, ho] at hc ⊢
 unfold storeK at hst ⊢
 generalize evA h s.fr x = q at hst ⊢
 generalize evA h s.fr y = u at hst ⊢
 cases hou : h.outer with
 | false =>
  simp only [hou, Cond] at hc hst ⊢
  cases q with
  | loc i off =>
   dsimp only at hst ⊢
   rw [obWriteK_eq] at hst ⊢
   obtain ⟨w, h1, h2⟩ := opt_some.1 hst
   simp only [Option.some.injEq, Prod.mk.injEq] at h2
   obtain ⟨rfl, rfl, rfl⟩ := h2
   refine ⟨_, rfl, rfl, opt_some.2 ⟨w, ?_, ?_⟩⟩
   ·rw [l2.1, hc, ← l1.1]; exact h1
   ·rw [l2.1, hc, ← l1.1]
  | cv c => cases hst
  | osl _ => cases hst
  | lsl _ _ _ => cases hst
  | lclo _ _ => cases hst
  | mloc _ => cases hst
  | tloc _ _ _ => cases hst
  | ltup _ => cases hst
 | true =>
  simp only [hou, Cond] at hc hst ⊢
  obtain ⟨rfl, hpu⟩ := hc
  cases q with
  | cv c =>
   dsimp only at hst ⊢
   obtain ⟨q, h1, h2⟩ := opt_some.1 hst
   obtain ⟨h3, h4⟩ := guardB_some.1 h2
   obtain ⟨w, h5, h6⟩ := opt_some.1 h4
   simp only [Option.some.injEq, Prod.mk.injEq] at h6
   obtain ⟨rfl, rfl, rfl⟩ := h6
   exact ⟨rfl, opt_some.2 ⟨q, h1, guardB_some.2 ⟨h3, opt_some.2 ⟨w, h5, rfl⟩⟩⟩⟩
  | loc i off => cases hst
  | osl _ => cases hst
  | lsl _ _ _ => cases hst
  | lclo _ _ => cases hst
  | mloc _ => cases hst
  | tloc _ _ _ => cases hst
  | ltup _ => cases hst
theorem eff_alloc {ty : TypeId} (ho : o.op = .alloc ty) (hc : Cond (kindOf h o) s t μ ν) (hst : step1 P ρ h o s μ = some (v, s', μ')) : Eff P ρ h o (kindOf h o) s t μ ν v s' μ' := by
 have l1 := stripSlots_lam h.take s
 have l2 := stripSlots_lam h.take t
 simp only [kindOf, ho, Cond] at hc
 simp only [kindOf, ho, Eff]
 simp only [step1, opK1, ho] at hst ⊢
 obtain ⟨w, h1, h2⟩ := opt_some.1 hst
 simp only [Option.some.injEq, Prod.mk.injEq] at h2
 obtain ⟨rfl, rfl, rfl⟩ := h2
 refine ⟨_, by rw [l1.1], rfl, opt_some.2 ⟨w, h1, ?_⟩⟩
 rw [l1.1, l2.1, hc]
theorem eff_box {ty : TypeId} {x : Operand} (ho : o.op = .box ty x) (ha : Ag h o s t) (hc : Cond (kindOf h o) s t μ ν) (hst : step1 P ρ h o s μ = some (v, s', μ')) : Eff P ρ h o (kindOf h o) s t μ ν v s' μ' := by
 have e := ha x (by simp [ho, Op.operands])
 have l1 := stripSlots_lam h.take s
 have l2 := stripSlots_lam h.take t
 simp only [kindOf, ho, Cond] at hc
 simp only [kindOf, ho, Eff]
 simp only [step1, opK1, ho, e] at hst ⊢
 obtain ⟨w, h1, h2⟩ := opt_some.1 hst
 simp only [Option.some.injEq, Prod.mk.injEq] at h2
 obtain ⟨rfl, rfl, rfl⟩ := h2
 refine ⟨_, by rw [l1.1], rfl, opt_some.2 ⟨w, h1, ?_⟩⟩
 rw [l1.1, l2.1, hc]
theorem eff_buildSlice {ty : TypeId} {len : Nat} {parts : Array (Nat × Operand)} (ho : o.op = .buildSlice ty len parts) (hr : h.arr = true) (ha : Ag h o s t) (hc : Cond (kindOf h o) s t μ ν) (hst : step1 P ρ h o s μ = some (v, s', μ')) : Eff P ρ h o (kindOf h o) s t μ ν v s' μ' := by
 have e : partsCV (evA h t.fr) parts.toList = partsCV (evA h s.fr) parts.toList := partsCV_congr fun q hq => ha q.2 (by simp only [ho, Op.operands]; simp; exact ⟨q.1, by simpa using hq⟩)
 have l1 := stripSlots_lam h.take s
 have l2 := stripSlots_lam h.take t
 simp only [kindOf, ho, hr, Cond] at hc
 simp only [kindOf, ho, hr, Eff]
 simp only [step1, opK1, ho, e, hr] at hst ⊢
 split at hst <;> try (cases hst; done)
 obtain ⟨sz, h1, hst⟩ := opt_some.1 hst
 obtain ⟨h2, hst⟩ := guardB_some.1 hst
 obtain ⟨z, h3, hst⟩ := opt_some.1 hst
 obtain ⟨ps, h4, hst⟩ := opt_some.1 hst
 obtain ⟨xs, h5, hst⟩ := opt_some.1 hst
 obtain ⟨h6, hst⟩ := guardB_some.1 hst
 obtain ⟨h7, hst⟩ := guardB_some.1 hst
 simp only [Option.some.injEq, Prod.mk.injEq] at hst
 obtain ⟨rfl, rfl, rfl⟩ := hst
 refine ⟨_, by rw [l1.1], rfl, opt_some.2 ⟨sz, h1, guardB_some.2 ⟨h2, opt_some.2 ⟨z, h3, opt_some.2 ⟨ps, h4, opt_some.2 ⟨xs, h5, guardB_some.2 ⟨h6, guardB_some.2 ⟨h7, ?_⟩⟩⟩⟩⟩⟩⟩⟩
 rw [l1.1, l2.1, hc]
theorem convertK_frame {β : Type} {src dst : TypeId} {q : LV} {f : LV → S → Mu → Option β} (hr : h.arr = false) (hq : ∀ id off len, q ≠ .lsl id off len) :
  convertK P h src dst q t ν f = convertK P h src dst q s μ fun v _ _ => f v t ν := by
 unfold convertK
 simp only [hr]
theorem eff_convert {src dst : TypeId} {x : Operand} (ho : o.op = .convert src dst x) (hr : h.arr = false) (ha : Ag h o s t) (hc : Cond (kindOf h o) s t μ ν) (hst : step1 P ρ h o s μ = some (v, s', μ')) : Eff P ρ h o (kindOf h o) s t μ ν v s' μ' := by
 have e := ha x (by simp [ho, Op.operands])
 have l1 := stripSlots_lam h.take s
 have l2 := stripSlots_lam h.take t
 have hs1 : step1 P ρ h o s μ = convertK P h src dst (evA h s.fr x) (stripSlots h.take s) μ fun v s μ => some (v, s, μ) := by simp only [step1, opK1, ho]
 have ht1 : step1 P ρ h o t ν = convertK P h src dst (evA h s.fr x) (stripSlots h.take t) ν fun v s μ => some (v, s, μ) := by simp only [step1, opK1, ho, e]
 rw [hs1] at hst
 unfold Eff
 rw [ht1]
 clear hs1 ht1 e ha
 simp only [kindOf, ho, hr, Cond] at hc ⊢
 generalize evA h s.fr x = q at hst ⊢
 by_cases hq : ∀ id off len, q ≠ .lsl id off len
 ·have key : ∀ (t : S) (ν : Mu), (convertK P h src dst q t ν fun v s μ => some (v, s, μ)) = opt (convertK P h src dst q (stripSlots h.take s) μ fun v s μ => some (v, s, μ)) fun a => some (a.1, t, ν) := by
   intro t ν
   rw [nat_convertK]
   exact convertK_frame hr hq
  have h1 := key (stripSlots h.take s) μ
  rw [hst, opt_some'] at h1
  simp only [Option.some.injEq, Prod.mk.injEq, true_and] at h1
  refine ⟨h1.1, h1.2, ?_⟩
  rw [key, hst]
  rfl
 ·obtain ⟨id, off, len, rfl⟩ : ∃ id off len, q = .lsl id off len := by
   cases q <;> first | exact ⟨_, _, _, rfl⟩ | (exfalso; apply hq; intro _ _ _ hh; cases hh)
  unfold convertK at hst ⊢
  simp only [hr] at hst ⊢
  split at hst
  ·split at hst <;> cases hst
  ·rename_i hu
   split at hst
   ·cases hst
   ·rename_i e' hu'
    split at hst <;> try (cases hst; done)
    rename_i hue
    split at hst <;> try (cases hst; done)
    rename_i sz cs hob
    obtain ⟨h1, hst⟩ := guardB_some.1 hst
    obtain ⟨l, h2, hst⟩ := opt_some.1 hst
    simp only [Option.some.injEq, Prod.mk.injEq] at hst
    obtain ⟨rfl, rfl, rfl⟩ := hst
    rw [l1.1] at hob
    have hob2 : lamOb (stripSlots h.take t).lam id = .arr sz cs := by
     rw [l2.1, hc id (by rw [hob]; trivial)]; exact hob
    refine ⟨rfl, rfl, ?_⟩
    simp only [hob2]
    exact guardB_some.2 ⟨h1, opt_some.2 ⟨l, h2, rfl⟩⟩
   ·cases hst
  ·split at hst
   ·split at hst <;> cases hst
   ·cases hst
  ·cases hst
theorem eff_call {c : Call} {fx : Operand} (ho : o.op = .call c) (hc0 : c.callee = .value fx) (hp : h.push = false) (ha : Ag h o s t) (hc : Cond (kindOf h o) s t μ ν) (hst : step1 P ρ h o s μ = some (v, s', μ')) : Eff P ρ h o (kindOf h o) s t μ ν v s' μ' := by
 have e1 := ha fx (by simp [ho, Op.operands, Call.operands, hc0])
 have em : c.args.toList.map (evA h t.fr) = c.args.toList.map (evA h s.fr) := List.map_congr_left fun x hx => ha x (by simp [ho, Op.operands, Call.operands, hc0]; right; simpa using hx)
 have l1 := stripSlots_lam h.take s
 have l2 := stripSlots_lam h.take t
 simp only [kindOf, ho, hc0, hp, Cond] at hc
 simp only [kindOf, ho, hc0, hp, Eff]
 obtain ⟨rfl, hpu⟩ := hc
 have key : ∀ (f : FuncId) (args : List LV), (enterK P ρ h o.type f args (stripSlots h.take s) ν (fun v s μ => some (v, s, μ)) fun _ _ _ => none) = some (v, s', μ') →
   s' = stripSlots h.take s ∧ (enterK P ρ h o.type f args (stripSlots h.take t) ν (fun v s μ => some (v, s, μ)) fun _ _ _ => none) = some (v, stripSlots h.take t, μ') := by
  intro f args hk
  unfold enterK at hk ⊢
  simp only [hp] at hk ⊢
  obtain ⟨h1, hk⟩ := guardB_some.1 hk
  have h1' : (!(stripSlots h.take t).pushed && plainArgs args) = true := by rw [l2.2, hpu, ← l1.2]; exact h1
  unfold callK at hk
  obtain ⟨out, h2, hk⟩ := opt_some.1 hk
  cases out with
  | panic pv m => cases hk
  | ret rv m =>
   dsimp only at hk
   obtain ⟨y, h3, _⟩ := typedK_sound hk
   simp only [Option.some.injEq, Prod.mk.injEq] at h3
   refine ⟨h3.2.1.symm, guardB_some.2 ⟨h1', ?_⟩⟩
   unfold callK
   refine opt_some.2 ⟨.ret rv m, h2, ?_⟩
   dsimp only
   have : (typedK P h.own o.type rv fun v => some (v, stripSlots h.take t, m)) = opt (typedK P h.own o.type rv fun v => some (v, stripSlots h.take s, m)) fun q => some (q.1, stripSlots h.take t, q.2.2) := by
    rw [nat_typedK]
    rfl
   rw [this, hk]
   rfl
 simp only [step1, opK1, ho, hc0, e1, em] at hst ⊢
 obtain ⟨h1, hst⟩ := guardB_some.1 hst
 revert hst
 generalize evA h s.fr fx = q
 intro hst
 cases q with
 | cv cc =>
  cases cc with
  | clo f caps =>
   obtain ⟨k1, k2⟩ := key _ _ hst
   exact ⟨k1, guardB_some.2 ⟨h1, k2⟩⟩
  | _ => cases hst
 | lclo f caps =>
  obtain ⟨k1, k2⟩ := key _ _ hst
  exact ⟨k1, guardB_some.2 ⟨h1, k2⟩⟩
 | _ => cases hst
end
end Go.Abs

set_option linter.unusedVariables false
set_option linter.unusedSimpArgs false
namespace Go.Abs
open Go
section
variable {P : Program} {ρ : Rho} {h : OpHint} {o : Oper} {s t s' : S} {μ ν μ' : Mu} {v : LV}
theorem step1_eff (ha : Ag h o s t) (hc : Cond (kindOf h o) s t μ ν) (hk : kindOf h o ≠ .all) (hst : step1 P ρ h o s μ = some (v, s', μ')) : Eff P ρ h o (kindOf h o) s t μ ν v s' μ' := by
 have pl : kindOf h o = .plain → (∀ t ν, Ag h o s t → Plain P ρ h o s t μ ν) → Eff P ρ h o (kindOf h o) s t μ ν v s' μ' := fun e hp => by rw [e]; exact eff_plain hp ha hst
 cases ho : o.op with
 | move x => exact pl (by simp [kindOf, ho]) fun t ν ha => pl_move (.inl ho) ha
 | assign x => exact pl (by simp [kindOf, ho]) fun t ν ha => pl_move (.inr ho) ha
 | pick c x y => exact pl (by simp [kindOf, ho]) fun t ν ha => pl_pick ho ha
 | alloc ty => exact eff_alloc ho hc hst
 | box ty x => exact eff_box ho ha hc hst
 | build ty ps => exact pl (by simp [kindOf, ho]) fun t ν ha => pl_build ho ha
 | buildSlice ty len ps =>
  cases hr : h.arr with
  | true => exact eff_buildSlice ho hr ha hc hst
  | false => exact pl (by simp [kindOf, ho, hr]) fun t ν ha => pl_buildSlice ho hr ha
 | load ty x => exact eff_load ho ha hc hst
 | store ty x y => exact eff_store ho ha hc hst
 | nilCheck x => exact pl (by simp [kindOf, ho]) fun t ν ha => pl_nilCheck ho ha
 | binOp op ty x y ty' => exact pl (by simp [kindOf, ho]) fun t ν ha => pl_binOp ho ha
 | unOp op ty x => exact pl (by simp [kindOf, ho]) fun t ν ha => pl_unOp ho ha
 | convert src dst x =>
  cases hr : h.arr with
  | true => exact absurd (by simp [kindOf, ho, hr]) hk
  | false => exact eff_convert ho hr ha hc hst
 | makeInterface ty x => exact pl (by simp [kindOf, ho]) fun t ν ha => pl_makeInterface ho ha
 | makeFunc fn first captured => exact pl (by simp [kindOf, ho]) fun t ν ha => pl_makeFunc ho ha
 | slice ty x lo hi mx => exact pl (by simp [kindOf, ho]) fun t ν ha => pl_slice ho ha
 | fieldAddr ty x f => exact pl (by simp [kindOf, ho]) fun t ν ha => pl_fieldAddr ho ha
 | field ty x f => exact pl (by simp [kindOf, ho]) fun t ν ha => pl_field ho ha
 | indexAddr ty x y => exact pl (by simp [kindOf, ho]) fun t ν ha => pl_indexAddr ho ha
 | index ty x y => exact pl (by simp [kindOf, ho]) fun t ν ha => pl_index ho ha
 | extract x i => exact pl (by simp [kindOf, ho]) fun t ν ha => pl_extract ho ha
 | panic x => exact absurd (by simp [kindOf, ho]) hk
 | typeAssert x xt ty ok => exact absurd (by simp [kindOf, ho]) hk
 | makeMap ty x => exact absurd (by simp [kindOf, ho]) hk
 | insert ty m x y => exact absurd (by simp [kindOf, ho]) hk
 | mapUpdate ty m x y => exact absurd (by simp [kindOf, ho]) hk
 | lookup ty m x ok => exact absurd (by simp [kindOf, ho]) hk
 | call c =>
  cases hc0 : c.callee with
  | builtin b => exact pl (by simp [kindOf, ho, hc0]) fun t ν ha => pl_builtin ho hc0 ha
  | value fx =>
   cases hp : h.push with
   | true => exact absurd (by simp [kindOf, ho, hc0, hp]) hk
   | false => exact eff_call ho hc0 hp ha hc hst
  | invoke r m => simp [step1, opK1, ho, hc0] at hst
 | _ => simp [step1, opK1, ho] at hst
end
end Go.Abs

set_option linter.unusedVariables false
set_option linter.unusedSimpArgs false
namespace Go.Abs
open Go
def stepR (P : Program) (ρ : Rho) (H : Hints) (rg : Nat) (ops : Array Oper) (i : Nat) (s : S) (μ : Mu) : Option (S × Mu) :=
  match ops[i]? with
  | none => none
  | some o => match o.guard with
    | none => opt (step1 P ρ (H.op rg i) o s μ) fun q => some (q.2.1.put o.dst q.1, q.2.2)
    | some g => opt (dstOf ops g.1) fun d => opt (getGuard (s.fr d)) fun q => match q == some g.2 with
      | true => opt (step1 P ρ (H.op rg i) o s μ) fun q => some (q.2.1.put o.dst q.1, q.2.2)
      | false => some (s.put o.dst (.cv (.v Go.undef)), μ)
section
variable {P : Program} {ρ : Rho} {H : Hints} {rg : Nat} {ops : Array Oper} {α : Type}
theorem opK_step {h : OpHint} (hf : noFreeze h = true) {o : Oper} {s : S} {μ : Mu} {f : LV → S → Mu → Option α} : opK P ρ h o s μ f (fun _ _ _ => none) = opt (step1 P ρ h o s μ) fun q => f q.1 q.2.1 q.2.2 := by
  unfold noFreeze at hf
  split at hf
  · rename_i h1 h2
    unfold opK
    rw [h1, h2]
    exact opK1_step
  · cases hf
theorem opsK_step {i : Nat} {rest : List Nat} (hf : noFreeze (H.op rg i) = true) {s : S} {μ : Mu} {k : S → Mu → Option α} :
    opsK P ρ H rg ops (i :: rest) s μ k (fun _ _ _ => none) = opt (stepR P ρ H rg ops i s μ) fun q => opsK P ρ H rg ops rest q.1 q.2 k fun _ _ _ => none := by
  simp only [opsK, stepR]
  cases ops[i]? with
  | none => rfl
  | some o =>
    dsimp only
    cases o.guard with
    | none => dsimp only; rw [opK_step hf, opt_assoc]; rfl
    | some g =>
      dsimp only
      simp only [opt_assoc]
      congr; funext d
      cases hq : getGuard (s.fr d) with
      | none => rfl
      | some q =>
       cases q with
       | none => rfl
       | some b =>
        simp only [opt_some']
        have hb := getGuard_bool hq
        have hd := getBool_eq hb
        obtain ⟨j, want⟩ := g
        cases b <;> cases want <;> simp only [cond_true, cond_false, S.set_self s d _ hd, opK_step hf, opt_assoc, opt_some', beq_self_eq_true] <;> rfl
def core (P : Program) (ρ : Rho) (H : Hints) (rg : Nat) (ops : Array Oper) (i : Nat) (o : Oper) (s : S) (μ : Mu) : Option (LV × S × Mu) :=
  match o.guard with
  | none => step1 P ρ (H.op rg i) o s μ
  | some g => opt (dstOf ops g.1) fun d => opt (getGuard (s.fr d)) fun q => match q == some g.2 with
    | true => step1 P ρ (H.op rg i) o s μ
    | false => some (.cv (.v Go.undef), s, μ)
theorem stepR_core {i : Nat} {o : Oper} (ho : ops[i]? = some o) {s : S} {μ : Mu} : stepR P ρ H rg ops i s μ = opt (core P ρ H rg ops i o s μ) fun q => some (q.2.1.put o.dst q.1, q.2.2) := by
  simp only [stepR, core, ho]
  cases o.guard with
  | none => rfl
  | some g =>
    dsimp only
    simp only [opt_assoc]
    congr; funext d; congr; funext b
    cases b == some g.2 <;> rfl
def EffC (P : Program) (ρ : Rho) (H : Hints) (rg : Nat) (ops : Array Oper) (i : Nat) (o : Oper) (T : List Nat) (k : Kind) (s t : S) (μ ν : Mu) (v : LV) (s' : S) (μ' : Mu) : Prop :=
  match k with
  | .plain => s' = stripSlots T s ∧ μ' = μ ∧ core P ρ H rg ops i o t ν = some (v, stripSlots T t, ν)
  | .rd => s' = stripSlots T s ∧ μ' = μ ∧ core P ρ H rg ops i o t ν = some (v, stripSlots T t, ν)
  | .wr => ∃ lam', s' = { stripSlots T s with lam := lam' } ∧ μ' = μ ∧ core P ρ H rg ops i o t ν = some (v, { stripSlots T t with lam := lam' }, ν)
  | .ap => ∃ ob, s' = { stripSlots T s with lam := s.lam ++ [ob] } ∧ μ' = μ ∧ core P ρ H rg ops i o t ν = some (v, { stripSlots T t with lam := t.lam ++ [ob] }, ν)
  | .look => s' = stripSlots T s ∧ μ' = μ ∧ core P ρ H rg ops i o t ν = some (v, stripSlots T t, ν)
  | .ou => s' = stripSlots T s ∧ core P ρ H rg ops i o t ν = some (v, stripSlots T t, μ')
  | .all => False
def AgR (ops : Array Oper) (o : Oper) (s t : S) : Prop := ∀ u, u ∈ o.looksAt ops → t.fr u = s.fr u
theorem AgR.ag {o : Oper} {s t : S} (h : AgR ops o s t) (hh : OpHint) : Ag hh o s t := by
  intro x hx
  cases x with
  | tmp u =>
    have hu : u ∈ o.looksAt ops := by
      unfold Oper.looksAt
      refine List.mem_append_left _ (List.mem_filterMap.2 ⟨.tmp u, hx, rfl⟩)
    simp only [evA, h u hu]
  | const c => rfl
  | global g => rfl
  | func f => rfl
theorem AgR.guard {o : Oper} {s t : S} (h : AgR ops o s t) {g : Nat × Bool} (hg : o.guard = some g) {d : Nat} (hd : dstOf ops g.1 = some d) : t.fr d = s.fr d := by
  refine h d ?_
  unfold Oper.looksAt
  refine List.mem_append_right _ ?_
  rw [hg]
  obtain ⟨j, b⟩ := g
  simp only [dstOf] at hd
  cases hj : ops[j]? with
  | none => rw [hj] at hd; cases hd
  | some oj =>
    rw [hj] at hd
    have hd : oj.dst = some d := hd
    simp [hj, hd]
theorem core_eff {i : Nat} {o : Oper} {s t s' : S} {μ ν μ' : Mu} {v : LV} (ha : AgR ops o s t) (hk : kindOf (H.op rg i) o ≠ .all) (hst : core P ρ H rg ops i o s μ = some (v, s', μ')) :
    ∃ T k, (T = (H.op rg i).take ∨ T = []) ∧ (k = kindOf (H.op rg i) o ∨ k = .plain) ∧ ∀ t ν, AgR ops o s t → Cond (kindOf (H.op rg i) o) s t μ ν → EffC P ρ H rg ops i o T k s t μ ν v s' μ' := by
  have run : core P ρ H rg ops i o s μ = step1 P ρ (H.op rg i) o s μ → (∀ t ν, AgR ops o s t → core P ρ H rg ops i o t ν = step1 P ρ (H.op rg i) o t ν) →
      ∃ T k, (T = (H.op rg i).take ∨ T = []) ∧ (k = kindOf (H.op rg i) o ∨ k = .plain) ∧ ∀ t ν, AgR ops o s t → Cond (kindOf (H.op rg i) o) s t μ ν → EffC P ρ H rg ops i o T k s t μ ν v s' μ' := by
    intro e1 e2
    rw [e1] at hst
    refine ⟨_, _, .inl rfl, .inl rfl, fun t ν ha hc => ?_⟩
    have := step1_eff (ha.ag _) hc hk hst
    unfold Eff at this
    unfold EffC
    rw [e2 t ν ha]
    revert this hk
    cases kindOf (H.op rg i) o <;> intro hk this <;> first | exact this | exact absurd rfl hk
  cases hg : o.guard with
  | none => exact run (by simp only [core, hg]) fun t ν _ => by simp only [core, hg]
  | some g =>
    have hst' := hst
    simp only [core, hg] at hst'
    obtain ⟨d, hd, hst'⟩ := opt_some.1 hst'
    obtain ⟨b, hb, hst'⟩ := opt_some.1 hst'
    cases hbg : b == some g.2 with
    | true =>
      refine run (by simp only [core, hg, hd, hb, opt_some', hbg]) fun t ν ha => ?_
      have := ha.guard hg hd
      simp only [core, hg, hd, this, hb, opt_some', hbg]
    | false =>
      rw [hbg] at hst'
      simp only [Option.some.injEq, Prod.mk.injEq] at hst'
      obtain ⟨rfl, rfl, rfl⟩ := hst'
      refine ⟨[], .plain, .inr rfl, .inr rfl, fun t ν ha hc => ⟨rfl, rfl, ?_⟩⟩
      have := ha.guard hg hd
      simp only [core, hg, hd, this, hb, opt_some', hbg, stripSlots]
def phiT (u : Nat) : List Nat → LV → LV
  | [], x => x
  | t :: r, x => phiT u r (if u = t then strip x else x)
def phi (T : List Nat) (dst : Option Nat) (v : LV) (u : Nat) (x : LV) : LV := if dst = some u then v else phiT u T x
theorem strip_phi : ∀ (T : List Nat) (s : S) (u : Nat), (stripSlots T s).fr u = phiT u T (s.fr u)
  | [], s, u => rfl
  | t :: r, s, u => by
    simp only [stripSlots, phiT]
    rw [strip_phi r]
    congr 1
    by_cases hu : u = t
    · subst hu; simp only [S.set, upd_same, if_true]
    · simp only [S.set, upd_other _ _ hu, if_neg hu]
theorem put_phi {s' : S} {T : List Nat} {s : S} {dst : Option Nat} {v : LV} (h : s'.fr = (stripSlots T s).fr) (u : Nat) : (s'.put dst v).fr u = phi T dst v u (s.fr u) := by
  unfold phi
  cases dst with
  | none => simp only [S.put, h, strip_phi, reduceCtorEq, if_false]
  | some d =>
    by_cases hu : u = d
    · subst hu; simp only [S.put, S.set, upd_same, if_true]
    · have : ¬ (some d = some u) := fun e => hu (Option.some.inj e).symm
      simp only [S.put, S.set, upd_other _ _ hu, h, strip_phi, if_neg this]
theorem phiT_other {u : Nat} : ∀ {T : List Nat} {x : LV}, u ∉ T → phiT u T x = x
  | [], x, _ => rfl
  | t :: r, x, h => by
    simp only [List.mem_cons, not_or] at h
    simp only [phiT, if_neg h.1]
    exact phiT_other h.2
theorem phi_other {T : List Nat} {dst : Option Nat} {v : LV} {u : Nat} {x : LV} (h1 : dst ≠ some u) (h2 : u ∉ T) : phi T dst v u x = x := by
  unfold phi
  rw [if_neg h1, phiT_other h2]
theorem put_lam (s : S) (dst : Option Nat) (v : LV) : (s.put dst v).lam = s.lam ∧ (s.put dst v).pushed = s.pushed := by
  cases dst <;> exact ⟨rfl, rfl⟩
end
end Go.Abs

set_option linter.unusedVariables false
set_option linter.unusedSimpArgs false
namespace Go.Abs
open Go
section
variable {P : Program} {ρ : Rho} {H : Hints} {rg : Nat} {ops : Array Oper}
def Left (k : Kind) (s s1 : S) (μ μ1 : Mu) : Prop :=
 s1.pushed = s.pushed ∧ match k with
 | .plain => s1.lam = s.lam ∧ μ1 = μ
 | .rd => s1.lam = s.lam ∧ μ1 = μ
 | .wr => μ1 = μ
 | .ap => (∃ ob, s1.lam = s.lam ++ [ob]) ∧ μ1 = μ
 | .look => s1.lam = s.lam ∧ μ1 = μ
 | .ou => s1.lam = s.lam
 | .all => False
theorem EffC.left {i : Nat} {o : Oper} {T : List Nat} {k : Kind} {s t s' : S} {μ ν μ' : Mu} {v : LV} (h : EffC P ρ H rg ops i o T k s t μ ν v s' μ') : Left k s s' μ μ' ∧ s'.fr = (stripSlots T s).fr := by
 have l := stripSlots_lam T s
 unfold EffC at h
 unfold Left
 cases k with
 | plain => obtain ⟨rfl, rfl, _⟩ := h; exact ⟨⟨l.2, l.1, rfl⟩, rfl⟩
 | rd => obtain ⟨rfl, rfl, _⟩ := h; exact ⟨⟨l.2, l.1, rfl⟩, rfl⟩
 | wr => obtain ⟨lam', rfl, rfl, _⟩ := h; exact ⟨⟨l.2, rfl⟩, rfl⟩
 | ap => obtain ⟨ob, rfl, rfl, _⟩ := h; exact ⟨⟨l.2, ⟨ob, rfl⟩, rfl⟩, rfl⟩
 | look => obtain ⟨rfl, rfl, _⟩ := h; exact ⟨⟨l.2, l.1, rfl⟩, rfl⟩
 | ou => obtain ⟨rfl, _⟩ := h; exact ⟨⟨l.2, l.1⟩, rfl⟩
 | all => exact h.elim
theorem cond_back {kj ki : Kind} (hm : mayAhead kj ki = true ∨ kj = .plain) (hki : ki ≠ .all) {s s1 : S} {μ μ1 : Mu} (h : Left kj s s1 μ μ1) : Cond ki s1 s μ1 μ := by
 unfold Left at h
 obtain ⟨hp, h⟩ := h
 cases kj <;> cases ki <;> simp_all [mayAhead, Cond]
theorem cond_fwd {kj ki : Kind} (hm : mayAhead kj ki = true ∨ ki = .plain) (hkj : kj ≠ .all) {s t1 : S} {μ ν1 : Mu} (h : Left ki s t1 μ ν1) : Cond kj s t1 μ ν1 := by
 unfold Left at h
 obtain ⟨hp, h⟩ := h
 cases kj <;> cases ki <;> simp_all [mayAhead, Cond]
 obtain ⟨⟨ob, h1⟩, h2⟩ := h
 intro i hi
 rw [h1]
 exact lamOb_app_lt (lamOb_lt hi)
def Mem (k : Kind) (a b : Lam) (μ ν : Mu) (a' b' : Lam) (μ' ν' : Mu) : Prop :=
 match k with
 | .plain => a' = a ∧ b' = b ∧ μ' = μ ∧ ν' = ν
 | .rd => a' = a ∧ b' = b ∧ μ' = μ ∧ ν' = ν
 | .wr => b' = a' ∧ μ' = μ ∧ ν' = ν
 | .ap => (∃ ob, a' = a ++ [ob] ∧ b' = b ++ [ob]) ∧ μ' = μ ∧ ν' = ν
 | .look => a' = a ∧ b' = b ∧ μ' = μ ∧ ν' = ν
 | .ou => a' = a ∧ b' = b ∧ ν' = μ'
 | .all => False
theorem EffC.out {i : Nat} {o : Oper} {T : List Nat} {k : Kind} {s t s' : S} {μ ν μ' : Mu} {v : LV} (h : EffC P ρ H rg ops i o T k s t μ ν v s' μ') :
  ∃ X ν', core P ρ H rg ops i o t ν = some (v, X, ν') ∧ X.fr = (stripSlots T t).fr ∧ X.pushed = t.pushed ∧ Mem k s.lam t.lam μ ν s'.lam X.lam μ' ν' ∧ Left k t X ν ν' := by
 have l := stripSlots_lam T s
 have l2 := stripSlots_lam T t
 unfold EffC at h
 cases k with
 | plain => obtain ⟨rfl, rfl, h⟩ := h; exact ⟨_, _, h, rfl, l2.2, ⟨l.1, l2.1, rfl, rfl⟩, l2.2, l2.1, rfl⟩
 | rd => obtain ⟨rfl, rfl, h⟩ := h; exact ⟨_, _, h, rfl, l2.2, ⟨l.1, l2.1, rfl, rfl⟩, l2.2, l2.1, rfl⟩
 | wr => obtain ⟨lam', rfl, rfl, h⟩ := h; exact ⟨_, _, h, rfl, l2.2, ⟨rfl, rfl, rfl⟩, l2.2, rfl⟩
 | ap => obtain ⟨ob, rfl, rfl, h⟩ := h; exact ⟨_, _, h, rfl, l2.2, ⟨⟨ob, rfl, rfl⟩, rfl, rfl⟩, l2.2, ⟨ob, rfl⟩, rfl⟩
 | look => obtain ⟨rfl, rfl, h⟩ := h; exact ⟨_, _, h, rfl, l2.2, ⟨l.1, l2.1, rfl, rfl⟩, l2.2, l2.1, rfl⟩
 | ou => obtain ⟨rfl, h⟩ := h; exact ⟨_, _, h, rfl, l2.2, ⟨l.1, l2.1, rfl⟩, l2.2, l2.1⟩
 | all => exact h.elim
theorem disj_iff : ∀ {a b : List Nat}, disj a b = true → ∀ x, x ∈ a → x ∉ b
 | [], b, _, x, hx => by simp at hx
 | y :: r, b, h, x, hx => by
  simp only [disj] at h
  split at h
  ·cases h
  ·rename_i hm
   rcases List.mem_cons.1 hx with rfl | hx
   ·intro hb; rw [memN_iff.2 hb] at hm; cases hm
   ·exact disj_iff h x hx
theorem mem_writesR {h : OpHint} {o : Oper} {u : Nat} : u ∈ writesR h o ↔ o.dst = some u ∨ u ∈ h.take := by
 unfold writesR
 cases o.dst with
 | none => simp
 | some d => simp [eq_comm]
theorem not_writes {h : OpHint} {o : Oper} {u : Nat} (hu : u ∉ writesR h o) {T : List Nat} (hT : T = h.take ∨ T = []) : o.dst ≠ some u ∧ u ∉ T := by
 rw [mem_writesR, not_or] at hu
 refine ⟨hu.1, ?_⟩
 rcases hT with rfl | rfl
 ·exact hu.2
 ·simp
theorem ahead_plain {kj ki kj' ki' : Kind} (h : mayAhead kj ki = true) (hj : kj' = kj ∨ kj' = .plain) (hi : ki' = ki ∨ ki' = .plain) : mayAhead kj' ki' = true := by
 rcases hj with e | e <;> rcases hi with e' | e' <;> rw [e, e'] <;> cases kj <;> cases ki <;> simp_all [mayAhead]
theorem mem_swap {kj ki : Kind} {l l1 l2 t1 y : Lam} {μ μ1 μ2 ν1 ν2 : Mu} (ha : mayAhead kj ki = true) (hb : Mem ki l1 l μ1 μ l2 t1 μ2 ν1) (hc : Mem kj l t1 μ ν1 l1 y μ1 ν2) : y = l2 ∧ ν2 = μ2 := by
 cases kj <;> cases ki <;> simp only [mayAhead, Bool.false_eq_true] at ha <;> simp only [Mem] at hb hc
 all_goals first
  | (obtain ⟨a1, a2, a3, a4⟩ := hb; obtain ⟨b1, b2, b3, b4⟩ := hc; subst_vars; exact ⟨rfl, rfl⟩)
  | (obtain ⟨⟨ob, a1, a2⟩, a3, a4⟩ := hb; obtain ⟨b1, b2, b3, b4⟩ := hc; subst_vars; exact ⟨rfl, rfl⟩)
  | (obtain ⟨a1, a2, a3⟩ := hb; obtain ⟨b1, b2, b3, b4⟩ := hc; subst_vars; exact ⟨rfl, rfl⟩)
  | (obtain ⟨a1, a2, a3, a4⟩ := hb; obtain ⟨b1, b2, b3⟩ := hc; subst_vars; exact ⟨rfl, rfl⟩)
  | (obtain ⟨⟨ob, a1, a2⟩, a3, a4⟩ := hb; obtain ⟨⟨ob2, b1, b2⟩, b3, b4⟩ := hc; subst_vars; exact ⟨rfl, rfl⟩)
  | (obtain ⟨a1, a2, a3⟩ := hb; obtain ⟨b1, b2, b3⟩ := hc; subst_vars; exact ⟨rfl, rfl⟩)
  | (obtain ⟨a1, a2, a3, a4⟩ := hb; obtain ⟨⟨ob, b1, b2⟩, b3, b4⟩ := hc; subst_vars; exact ⟨rfl, rfl⟩)
  | (obtain ⟨a1, a2, a3⟩ := hb; obtain ⟨⟨ob, b1, b2⟩, b3, b4⟩ := hc; subst_vars; exact ⟨rfl, rfl⟩)
  | (obtain ⟨⟨ob, a1, a2⟩, a3, a4⟩ := hb; obtain ⟨b1, b2, b3⟩ := hc; subst_vars; exact ⟨rfl, rfl⟩)
theorem swap {i j : Nat} {s s1 s2 : S} {μ μ1 μ2 : Mu} (hind : indep H rg ops j i = true) (h1 : stepR P ρ H rg ops j s μ = some (s1, μ1)) (h2 : stepR P ρ H rg ops i s1 μ1 = some (s2, μ2)) :
  ∃ t1 ν1, stepR P ρ H rg ops i s μ = some (t1, ν1) ∧ stepR P ρ H rg ops j t1 ν1 = some (s2, μ2) := by
 unfold indep at hind
 split at hind <;> try (cases hind; done)
 rename_i oj oi hj hi
 simp only [Bool.and_eq_true] at hind
 obtain ⟨⟨⟨d1, d2⟩, d3⟩, hm⟩ := hind
 have hkj : kindOf (H.op rg j) oj ≠ .all := fun e => by rw [e] at hm; simp [mayAhead] at hm
 have hki : kindOf (H.op rg i) oi ≠ .all := fun e => by rw [e] at hm; revert hm; cases kindOf (H.op rg j) oj <;> simp [mayAhead]
 rw [stepR_core hj] at h1
 obtain ⟨⟨vj, sj, μj⟩, g1, e1⟩ := opt_some.1 h1
 simp only [Option.some.injEq, Prod.mk.injEq] at e1
 obtain ⟨rfl, rfl⟩ := e1
 rw [stepR_core hi] at h2
 obtain ⟨⟨vi, si, μi⟩, g2, e2⟩ := opt_some.1 h2
 simp only [Option.some.injEq, Prod.mk.injEq] at e2
 obtain ⟨rfl, rfl⟩ := e2
 obtain ⟨Tj, kj, hTj, hkj', Ej⟩ := core_eff (t := s) (ν := μ) (fun _ _ => rfl) hkj g1
 obtain ⟨Ti, ki, hTi, hki', Ei⟩ := core_eff (t := sj.put oj.dst vj) (ν := μj) (fun _ _ => rfl) hki g2
 have hcond0 : ∀ k : Kind, Cond k s s μ μ := fun k => by cases k <;> simp [Cond]
 obtain ⟨Lj, frj⟩ := (Ej s μ (fun _ _ => rfl) (hcond0 _)).left
 have hput := put_lam sj oj.dst vj
 have Lj' : Left kj s (sj.put oj.dst vj) μ μj := by
  unfold Left at Lj ⊢
  rw [hput.1, hput.2]
  exact Lj
 have hahead := ahead_plain hm hkj' hki'
 have hag1 : AgR ops oi (sj.put oj.dst vj) s := by
  intro u hu
  have hnw : u ∉ writesR (H.op rg j) oj := fun h => disj_iff d1 u h hu
  obtain ⟨n1, n2⟩ := not_writes hnw hTj
  rw [put_phi frj u, phi_other n1 n2]
 have hc1 : Cond (kindOf (H.op rg i) oi) (sj.put oj.dst vj) s μj μ := by
  refine cond_back ?_ hki Lj'
  rcases hkj' with rfl | rfl
  ·exact .inl hm
  ·exact .inr rfl
 obtain ⟨X, ν1, hX, frX, puX, memX, LX⟩ := (Ei s μ hag1 hc1).out
 have hputX := put_lam X oi.dst vi
 have LX' : Left ki s (X.put oi.dst vi) μ ν1 := by
  unfold Left at LX ⊢
  rw [hputX.1, hputX.2]
  exact LX
 have hag2 : AgR ops oj s (X.put oi.dst vi) := by
  intro u hu
  have hnw : u ∉ writesR (H.op rg i) oi := fun h => disj_iff d3 u h hu
  obtain ⟨n1, n2⟩ := not_writes hnw hTi
  rw [put_phi frX u, phi_other n1 n2]
 have hc2 : Cond (kindOf (H.op rg j) oj) s (X.put oi.dst vi) μ ν1 := by
  refine cond_fwd (ki := ki) ?_ hkj LX'
  rcases hki' with rfl | rfl
  ·exact .inl hm
  ·exact .inr rfl
 obtain ⟨Y, ν2, hY, frY, puY, memY, LY⟩ := (Ej _ _ hag2 hc2).out
 refine ⟨X.put oi.dst vi, ν1, by rw [stepR_core hi, hX]; rfl, ?_⟩
 rw [stepR_core hj, hY]
 simp only [opt_some', Option.some.injEq, Prod.mk.injEq]
 have hputY := put_lam Y oj.dst vj
 have hputi := put_lam si oi.dst vi
 obtain ⟨Li, fri⟩ := (Ei _ μj (fun _ _ => rfl) (by cases kindOf (H.op rg i) oi <;> simp [Cond])).left
 have hmem : Y.lam = si.lam ∧ ν2 = μi ∧ Y.pushed = si.pushed := by
  rw [hput.1] at memX
  rw [hputX.1] at memY
  have p1 : si.pushed = s.pushed := by rw [Li.1, hput.2, Lj.1]
  have p2 : Y.pushed = s.pushed := by rw [puY, hputX.2, puX]
  obtain ⟨m1, m2⟩ := mem_swap hahead memX memY
  exact ⟨m1, m2, by rw [p1, p2]⟩
 refine ⟨?_, hmem.2.1⟩
 have hfr : ∀ u, (Y.put oj.dst vj).fr u = (si.put oi.dst vi).fr u := by
  intro u
  rw [put_phi frY u, put_phi frX u, put_phi fri u, put_phi frj u]
  by_cases hu : u ∈ writesR (H.op rg j) oj
  ·have hnw := disj_iff d2 u hu
   obtain ⟨n1, n2⟩ := not_writes hnw hTi
   rw [phi_other n1 n2, phi_other n1 n2]
  ·obtain ⟨n1, n2⟩ := not_writes hu hTj
   rw [phi_other n1 n2, phi_other n1 n2]
 have e1 : (Y.put oj.dst vj).fr = (si.put oi.dst vi).fr := funext hfr
 have e2 : (Y.put oj.dst vj).lam = (si.put oi.dst vi).lam := by rw [hputY.1, hputi.1]; exact hmem.1
 have e3 : (Y.put oj.dst vj).pushed = (si.put oi.dst vi).pushed := by rw [hputY.2, hputi.2]; exact hmem.2.2
 revert e1 e2 e3
 generalize Y.put oj.dst vj = A
 generalize si.put oi.dst vi = B
 intro e1 e2 e3
 cases A; cases B
 simp only at e1 e2 e3
 rw [e1, e2, e3]
end
end Go.Abs

set_option linter.unusedVariables false
set_option linter.unusedSimpArgs false
namespace Go.Abs
open Go
section
variable {P : Program} {ρ : Rho} {H : Hints} {rg : Nat} {ops : Array Oper} {α : Type}
def runR (P : Program) (ρ : Rho) (H : Hints) (rg : Nat) (ops : Array Oper) : List Nat → S → Mu → Option (S × Mu)
 | [], s, μ => some (s, μ)
 | i :: r, s, μ => opt (stepR P ρ H rg ops i s μ) fun q => runR P ρ H rg ops r q.1 q.2
theorem opsK_run : ∀ {l : List Nat} (hf : ∀ i ∈ l, noFreeze (H.op rg i) = true) {s : S} {μ : Mu} {k : S → Mu → Option α},
  opsK P ρ H rg ops l s μ k (fun _ _ _ => none) = opt (runR P ρ H rg ops l s μ) fun q => k q.1 q.2
 | [], hf, s, μ, k => by simp only [opsK, runR, opt_some']
 | i :: r, hf, s, μ, k => by
  rw [opsK_step (hf i (by simp)), runR, opt_assoc]
  congr; funext q
  exact opsK_run fun j hj => hf j (List.mem_cons_of_mem _ hj)
theorem front {i : Nat} : ∀ {l : List Nat} {s : S} {μ : Mu} {out : S × Mu}, l.Pairwise (· < ·) → i ∈ l → (∀ j ∈ l, j < i → indep H rg ops j i = true) → runR P ρ H rg ops l s μ = some out →
  ∃ q, stepR P ρ H rg ops i s μ = some q ∧ runR P ρ H rg ops (l.erase i) q.1 q.2 = some out
 | [], s, μ, out, hp, hi, hx, h => by simp at hi
 | j :: r, s, μ, out, hp, hi, hx, h => by
  simp only [runR] at h
  obtain ⟨q, h1, h2⟩ := opt_some.1 h
  by_cases hji : j = i
  ·subst hji
   exact ⟨q, h1, by simpa using h2⟩
  ·have hir : i ∈ r := by
    rcases List.mem_cons.1 hi with rfl | h
    ·exact absurd rfl hji
    ·exact h
   rw [List.pairwise_cons] at hp
   obtain ⟨p, k1, k2⟩ := front hp.2 hir (fun k hk hlt => hx k (List.mem_cons_of_mem _ hk) hlt) h2
   obtain ⟨s1, μ1⟩ := q
   obtain ⟨s2, μ2⟩ := p
   obtain ⟨t1, ν1, m1, m2⟩ := swap (hx j (by simp) (hp.1 i hir)) h1 k1
   refine ⟨(t1, ν1), m1, ?_⟩
   rw [List.erase_cons_tail (by simpa using hji)]
   simp only [runR]
   exact opt_some.2 ⟨_, m2, k2⟩
theorem allB_iff {f : Nat → Bool} : ∀ {n : Nat}, allB f n = true → ∀ i, i < n → f i = true
 | 0, _, i, hi => by omega
 | n + 1, h, i, hi => by
  simp only [allB] at h
  split at h <;> try (cases h; done)
  rename_i hn
  rcases Nat.lt_or_ge i n with h1 | h1
  ·exact allB_iff h i h1
  ·have : i = n := by omega
   subst this
   exact hn
theorem ltB_iff {i : Nat} : ∀ {l : List Nat}, ltB i l = true → ∀ p ∈ l, p < i
 | [], _, p, hp => by simp at hp
 | q :: r, h, p, hp => by
  simp only [ltB] at h
  split at h <;> try (cases h; done)
  rename_i hq
  rcases List.mem_cons.1 hp with rfl | hp
  ·simpa [Nat.blt_eq] using hq
  ·exact ltB_iff h p hp
theorem mem_rowOf {rows : List (List Nat)} : ∀ {l : List Nat} {j : Nat}, j ∈ rowOf rows l → ∃ p ∈ l, j = p ∨ j ∈ rows.getD p []
 | [], j, h => by simp [rowOf] at h
 | p :: r, j, h => by
  simp only [rowOf, List.mem_cons, List.mem_append] at h
  rcases h with h | h | h
  ·exact ⟨p, by simp, .inl h⟩
  ·exact ⟨p, by simp, .inr h⟩
  ·obtain ⟨q, h1, h2⟩ := mem_rowOf h
   exact ⟨q, List.mem_cons_of_mem _ h1, h2⟩
theorem ancRows_length : ∀ n, (ancRows ops n).length = n
 | 0 => rfl
 | n + 1 => by simp [ancRows, ancRows_length n]
theorem ancRows_lt {n i : Nat} (h : i < n) : (ancRows ops (n + 1)).getD i [] = (ancRows ops n).getD i [] := by
 simp only [ancRows, List.getD_eq_getElem?_getD]
 rw [List.getElem?_append_left (by rw [ancRows_length]; exact h)]
def Closed (ops : Array Oper) (U : Nat → Prop) : Prop := ∀ i, U i → ∀ p ∈ predsOf ops i, U p
theorem anc_closed {U : Nat → Prop} (hU : Closed ops U) : ∀ {n i j : Nat}, i < n → j ∈ (ancRows ops n).getD i [] → U i → U j ∧ True
 | 0, i, j, hi, _, _ => by omega
 | n + 1, i, j, hi, hj, hui => by
  rcases Nat.lt_or_ge i n with h1 | h1
  ·rw [ancRows_lt h1] at hj
   exact anc_closed hU h1 hj hui
  ·have : i = n := by omega
   subst this
   simp only [ancRows, List.getD_eq_getElem?_getD] at hj
   rw [List.getElem?_append_right (by rw [ancRows_length]; exact Nat.le_refl _), ancRows_length] at hj
   simp only [Nat.sub_self, List.getElem?_cons_zero, Option.getD_some] at hj
   obtain ⟨p, hp, h2⟩ := mem_rowOf hj
   have hup := hU i hui p hp
   rcases h2 with rfl | h2
   ·exact ⟨hup, trivial⟩
   ·rcases Nat.lt_or_ge p i with h3 | h3
    ·exact anc_closed hU h3 h2 hup
    ·rw [List.getD_eq_getElem?_getD, List.getElem?_eq_none (by rw [ancRows_length]; exact h3)] at h2
     simp at h2
theorem anc_listed {U : Nat → Prop} (hU : Closed ops U) {n i j : Nat} (hi : i < n) (hp : ∀ p ∈ predsOf ops i, U p) (hj : j ∈ (ancRows ops n).getD i []) : U j := by
 induction n with
 | zero => omega
 | succ n ih =>
  rcases Nat.lt_or_ge i n with h1 | h1
  ·rw [ancRows_lt h1] at hj
   exact ih h1 hj
  ·have : i = n := by omega
   subst this
   simp only [ancRows, List.getD_eq_getElem?_getD] at hj
   rw [List.getElem?_append_right (by rw [ancRows_length]; exact Nat.le_refl _), ancRows_length] at hj
   simp only [Nat.sub_self, List.getElem?_cons_zero, Option.getD_some] at hj
   obtain ⟨p, hpp, h2⟩ := mem_rowOf hj
   have hup := hp p hpp
   rcases h2 with rfl | h2
   ·exact hup
   ·rcases Nat.lt_or_ge p i with h3 | h3
    ·exact (anc_closed hU h3 h2 hup).1
    ·rw [List.getD_eq_getElem?_getD, List.getElem?_eq_none (by rw [ancRows_length]; exact h3)] at h2
     simp at h2
theorem mem_preds {i p : Nat} {o : Oper} (ho : ops[i]? = some o) : p ∈ predsOf ops i ↔ ∃ e ∈ o.after, Region.binds .any e = true ∧ e.on = p := by
 simp only [predsOf, ho, List.mem_map, List.mem_filter, Array.mem_toList_iff]
 constructor
 ·rintro ⟨e, ⟨h1, h2⟩, h3⟩; exact ⟨e, h1, h2, h3⟩
 ·rintro ⟨e, h1, h2, h3⟩; exact ⟨e, ⟨h1, h2⟩, h3⟩
variable {W0 : World} {L : Nat} {r : α} {Q : Exit → Act → World → Prop}
theorem stepR_sound (hrho : CallsOK P W0 ρ) {i : Nat} (hf : noFreeze (H.op rg i) = true) {G : Gh} {w : World} {s s' : S} {μ μ' : Mu} {a : Act} {n : Nat} {ds : Keep} (hlt : ∀ (i : Nat) (o : Oper), ops[i]? = some o → ∀ d, o.dst = some d → d < n ∧ ds.lets d)
  (hkn : Kn W0 w (TouchS G w s μ a.tmps)) (hds : ds.at a) (h : stepR P ρ H rg ops i s μ = some (s', μ')) (R : Rel G L s μ a.tmps w) (hn : a.tmps.size = n) {K : Act → World → Prop}
  (hK : ∀ a' w' G', Rel G' L s' μ' a'.tmps w' → Ext L (TouchS G w s μ a.tmps) G w G' w' (TouchS G' w' s' μ' a'.tmps) → a'.tmps.size = n → ds.at a' → K a' w') : wpOp P ops Q i K a w := by
 unfold wpOp
 simp only [stepR] at h
 cases ho : ops[i]? with
 | none => rw [ho] at h; cases h
 | some o =>
  rw [ho] at h
  simp only at h ⊢
  have hlt' : ∀ d, o.dst = some d → d < a.tmps.size := fun d hd => by rw [hn]; exact (hlt i o ho d hd).1
  have hlt2 : ∀ (i : Nat) (o : Oper), ops[i]? = some o → ∀ d, o.dst = some d → d < a.tmps.size := fun i o ho d hd => by rw [hn]; exact (hlt i o ho d hd).1
  have run : (opt (step1 P ρ (H.op rg i) o s μ) fun q => some (q.2.1.put o.dst q.1, q.2.2)) = some (s', μ') → o.wp P a w K Q := by
   intro h
   have h2 : opK P ρ (H.op rg i) o s μ (fun v s μ => some (s.put o.dst v, μ)) (fun _ _ _ => none) = some (s', μ') := by rw [opK_step hf]; exact h
   refine opK_sound (L := L) (G := G) (r := (s', μ')) (k := fun v s μ => some (s.put o.dst v, μ)) (p := fun _ _ _ => none) R hlt' ?_ ?_ hrho hkn h2
   ·intro v s1 μ1 cv w' G' he R' E'
    simp only [Option.some.injEq, Prod.mk.injEq] at he
    obtain ⟨rfl, rfl⟩ := he
    exact hK _ w' G' R' E' (by rw [(put_size a o.dst cv).1]; exact hn) (Keep.put hds fun d hd => (hlt i o ho d hd).2)
   ·intro v s1 μ1 pv w' G' he
    cases he
  cases hg : o.guard with
  | none =>
   rw [hg] at h
   have hw : Region.wanted o (yielded ops a.tmps) = true := by simp [Region.wanted, hg]
   rw [if_pos hw]
   exact .inl (run h)
  | some g =>
   rw [hg] at h
   simp only at h
   obtain ⟨d, hd, h⟩ := opt_some.1 h
   obtain ⟨b, hb, h⟩ := opt_some.1 h
   have hy : yielded ops a.tmps g.1 = b := by
    cases b with
    | none => exact yielded_none R hd hlt2 hb
    | some b => exact yielded_of R hd hlt2 (getGuard_bool hb)
   obtain ⟨j, want⟩ := g
   simp only at hd hy h
   split at h
   ·rename_i hbw
    have hw : Region.wanted o (yielded ops a.tmps) = true := by
     have : b = some want := by simpa using hbw
     subst this
     simp [Region.wanted, hg, hy]
    rw [if_pos hw]
    exact .inl (run h)
   ·rename_i hbw
    have hw : ¬ Region.wanted o (yielded ops a.tmps) = true := by
     have : ¬ b = some want := by simpa using hbw
     simp [Region.wanted, hg, hy, this]
    rw [if_neg hw]
    simp only [Option.some.injEq, Prod.mk.injEq] at h
    obtain ⟨rfl, rfl⟩ := h
    obtain ⟨R2, E2⟩ := R.skip o.dst hlt'
    exact hK _ w G R2 E2 (by rw [(put_size a o.dst undef).1]; exact hn) (Keep.put hds fun d hd => (hlt i o ho d hd).2)
theorem any_sound (hrho : CallsOK P W0 ρ) (hdr : drawOK H rg ops = true) {T : Nat → Prop} {G0 : Gh} {w0 : World} {n : Nat} {ds : Keep} {k : S → Mu → Option α} (hlt : ∀ (i : Nat) (o : Oper), ops[i]? = some o → ∀ d, o.dst = some d → d < n ∧ ds.lets d)
  (hkn : Kn W0 w0 T) (hk : EndOK L G0 w0 T n ds k r Q) : ∀ (fuel : Nat) {l : List Nat} {listed : Array Bool} {G : Gh} {w : World} {s : S} {μ : Mu} {a : Act},
  l.length ≤ fuel → listed.size = ops.size → l.Pairwise (· < ·) → (∀ i, i ∈ l ↔ i < ops.size ∧ listed.getD i true = false) → Closed ops (fun i => listed.getD i false = true) →
  (opt (runR P ρ H rg ops l s μ) fun q => k q.1 q.2) = some r → Rel G L s μ a.tmps w → Ext L T G0 w0 G w (TouchS G w s μ a.tmps) → a.tmps.size = n → ds.at a →
  wpAny P .any ops Q fuel listed a w := by
 have hok : ∀ i, i < ops.size → (∀ p ∈ predsOf ops i, p < i) ∧ noFreeze (H.op rg i) = true ∧ ∀ j, j < i → j ∈ (ancRows ops ops.size).getD i [] ∨ indep H rg ops j i = true := by
  intro i hi
  have := allB_iff hdr i hi
  simp only [Bool.and_eq_true] at this
  obtain ⟨⟨h1, h2⟩, h3⟩ := this
  refine ⟨ltB_iff h1, h2, fun j hj => ?_⟩
  have := allB_iff h3 j hj
  simp only [Bool.or_eq_true] at this
  exact this.imp memN_iff.1 id
 have hnil : ∀ {l : List Nat} {listed : Array Bool} {G : Gh} {w : World} {s : S} {μ : Mu} {a : Act}, l = [] → (opt (runR P ρ H rg ops l s μ) fun q => k q.1 q.2) = some r → Rel G L s μ a.tmps w → Ext L T G0 w0 G w (TouchS G w s μ a.tmps) → a.tmps.size = n → ds.at a → Q .normal a w := by
  intro l listed G w s μ a hl h R E hn hds
  subst hl
  simp only [runR, opt_some'] at h
  exact hk s μ a w G h R E hn hds
 have hready : ∀ {l : List Nat} {listed : Array Bool}, listed.size = ops.size → l.Pairwise (· < ·) → (∀ i, i ∈ l ↔ i < ops.size ∧ listed.getD i true = false) → Region.ready .any ops listed = [] → l = [] := by
  intro l listed hsz hp hl hr
  cases l with
  | nil => rfl
  | cons m rest =>
   exfalso
   rw [List.pairwise_cons] at hp
   obtain ⟨hm1, hm2⟩ := (hl m).1 (by simp)
   have : m ∈ Region.ready .any ops listed := by
    refine mem_ready.2 ⟨?_, ops[m], by simp [hm1], fun e he hb => ?_⟩
    ·simp [Array.getD_eq_getD_getElem?, hsz, hm1] at hm2 ⊢; exact hm2
    ·have hpm : e.on ∈ predsOf ops m := (mem_preds (o := ops[m]) (by simp [hm1])).2 ⟨e, he, hb, rfl⟩
     have hlt := (hok m hm1).1 _ hpm
     by_cases hle : listed.getD e.on true = false
     ·have := (hl e.on).2 ⟨by omega, hle⟩
      rcases List.mem_cons.1 this with h | h
      ·omega
      ·have := hp.1 _ h; omega
     ·have hlt2 : e.on < listed.size := by omega
      simp [Array.getD_eq_getD_getElem?, hlt2] at hle ⊢; exact hle
   rw [hr] at this
   cases this
 intro fuel
 induction fuel with
 | zero =>
  intro l listed G w s μ a hf hsz hp hl hcl h R E hn hds
  have : l = [] := List.length_eq_zero_iff.1 (by omega)
  refine ⟨?_, hnil (listed := listed) this h R E hn hds⟩
  cases hr : Region.ready .any ops listed with
  | nil => rfl
  | cons m rest =>
   exfalso
   have hm : m ∈ Region.ready .any ops listed := by rw [hr]; simp
   obtain ⟨h1, o, ho, _⟩ := mem_ready.1 hm
   have hlt : m < ops.size := (Array.getElem?_eq_some_iff.1 ho).1
   have := (hl m).2 ⟨hlt, by simp [Array.getD_eq_getD_getElem?, hsz, hlt] at h1 ⊢; exact h1⟩
   subst l
   simp at this
 | succ fuel ih =>
  intro l listed G w s μ a hf hsz hp hl hcl h R E hn hds
  refine ⟨fun hr => hnil (listed := listed) (hready hsz hp hl hr) h R E hn hds, fun i hi => ?_⟩
  obtain ⟨h1, o, ho, hall⟩ := mem_ready.1 hi
  have hlti : i < ops.size := (Array.getElem?_eq_some_iff.1 ho).1
  have hun : listed.getD i true = false := by simp [Array.getD_eq_getD_getElem?, hsz, hlti] at h1 ⊢; exact h1
  have hil : i ∈ l := (hl i).2 ⟨hlti, hun⟩
  have hpl : ∀ p ∈ predsOf ops i, listed.getD p false = true := by
   intro p hp
   obtain ⟨e, he, hb, rfl⟩ := (mem_preds ho).1 hp
   exact hall e he hb
  obtain ⟨out, h2, h3⟩ := opt_some.1 h
  have hind : ∀ j ∈ l, j < i → indep H rg ops j i = true := by
   intro j hj hji
   rcases (hok i hlti).2.2 j hji with hanc | hx
   ·exfalso
    have hu := anc_listed hcl hlti hpl hanc
    obtain ⟨hj1, hj2⟩ := (hl j).1 hj
    have hj3 : j < listed.size := by omega
    simp [Array.getD_eq_getD_getElem?, hj3] at hu hj2
    rw [hu] at hj2
    cases hj2
   ·exact hx
  obtain ⟨⟨s1, μ1⟩, k1, k2⟩ := front hp hil hind h2
  refine stepR_sound hrho (hok i hlti).2.1 hlt (hkn.ext E) hds k1 R hn fun a' w' G' R' E' hn' hd' => ?_
  refine ih (l := l.erase i) ?_ (by simp [hsz]) (hp.sublist List.erase_sublist) (fun j => ?_) ?_ (opt_some.2 ⟨out, k2, h3⟩) R' (E.trans E') hn' hd'
  ·rw [List.length_erase_of_mem hil]; omega
  ·have hnd : l.Nodup := hp.imp fun h => Nat.ne_of_lt h
   rw [hnd.mem_erase_iff, hl]
   constructor
   ·rintro ⟨h1, h2, h3⟩
    exact ⟨h2, by rw [getD_set_ne true (Ne.symm h1)]; exact h3⟩
   ·rintro ⟨h2, h3⟩
    by_cases hji : j = i
    ·subst hji
     simp [Array.getD_eq_getD_getElem?, Array.getElem?_setIfInBounds, hsz, hlti] at h3
    ·exact ⟨hji, h2, by rw [getD_set_ne true (Ne.symm hji)] at h3; exact h3⟩
  ·intro j hj p hp
   by_cases hji : j = i
   ·subst hji
    exact getD_set_true (hpl p hp)
   ·rw [getD_set_ne false (Ne.symm hji)] at hj
    exact getD_set_true (hcl j hj p hp)
theorem drawn_sound (hrho : CallsOK P W0 ρ) (hm : P.follows .mixedOrders = true) (hdr : drawOK H rg ops = true) {T : Nat → Prop} {G0 G : Gh} {w0 w : World} {n : Nat} {ds : Keep} {s : S} {μ : Mu} {a : Act} {k : S → Mu → Option α} {id : Nat}
  (hlt : ∀ (i : Nat) (o : Oper), ops[i]? = some o → ∀ d, o.dst = some d → d < n ∧ ds.lets d) (hkn : Kn W0 w0 T) (hk : EndOK L G0 w0 T n ds k r Q)
  (h : opsK P ρ H rg ops (List.range ops.size) s μ k (fun _ _ _ => none) = some r) (R : Rel G L s μ a.tmps w) (E : Ext L T G0 w0 G w (TouchS G w s μ a.tmps)) (hn : a.tmps.size = n) (hds : ds.at a) :
  (Code.region id ops true).wp P Q a w := by
 refine wp_region_any hm ?_
 rw [opsK_run fun i hi => by
  have := allB_iff hdr i (by simpa using hi)
  simp only [Bool.and_eq_true] at this
  exact this.1.2] at h
 obtain ⟨R', hO⟩ := R.drew
 refine any_sound (L := L) (w := w.drew) hrho hdr hlt hkn hk ops.size (by simp) (by simp) List.pairwise_lt_range (fun i => ?_) (fun i hi => ?_) h R' (E.trans ⟨⟨fun _ _ _ h hb => ⟨h, hb⟩, fun _ _ h => ⟨h, rfl, rfl⟩, fun _ _ _ h hc => ⟨h, hc⟩, fun b cur e fz h => ⟨cur, fz, h, rfl⟩⟩, rfl, rfl, rfl, Nat.le_refl _, fun _ _ _ => ⟨rfl, rfl⟩, fun b hb => .inl ?_, fun _ _ => ⟨fun _ => ⟨rfl, rfl⟩, rfl⟩⟩) hn hds
 ·simp only [List.mem_range]
  constructor
  ·intro h; exact ⟨h, by simp [Array.getD_eq_getD_getElem?, h]⟩
  ·exact fun h => h.1
 ·exfalso
  simp only [Array.getD_eq_getD_getElem?] at hi
  rcases Nat.lt_or_ge i ops.size with h1 | h1
  ·simp [h1] at hi
  ·simp [h1] at hi
 ·rcases hb with ⟨l, hb⟩ | hb
  ·exact .inl ⟨l, hO l b hb⟩
  ·exact .inr hb
end
end Go.Abs

set_option linter.unusedVariables false
set_option linter.unusedSimpArgs false
namespace Go.Abs
open Go
theorem reach_nodup (l : Lam) : ∀ (n : Nat) (todo acc : List Nat), acc.Nodup → (reach l n todo acc).Nodup
 | 0, _, acc, h => by simpa [reach] using h
 | n + 1, [], acc, h => by simpa [reach] using h
 | n + 1, i :: todo, acc, h => by
  simp only [reach]
  split
  ·exact reach_nodup l n todo acc h
  ·rename_i hm
   have hni : i ∉ acc := fun hi => by rw [memN_iff.2 hi] at hm; cases hm
   have h2 : (acc ++ [i]).Nodup := by
    rw [List.nodup_append]
    refine ⟨h, by simp, fun a ha b hb => ?_⟩
    simp only [List.mem_singleton] at hb
    subst hb
    exact fun e => hni (e ▸ ha)
   split
   ·exact reach_nodup l n _ _ h2
   ·exact reach_nodup l n _ _ h2
theorem idxOf_some : ∀ {m : List Nat} {n i j : Nat}, idxOf m n i = some j → n ≤ j ∧ m[j - n]? = some i
 | [], n, i, j, h => by simp [idxOf] at h
 | a :: r, n, i, j, h => by
  simp only [idxOf] at h
  split at h
  ·rename_i e
   simp only [Option.some.injEq] at h
   subst h
   have := Nat.eq_of_beq_eq_true e
   subst this
   simp
  ·obtain ⟨h1, h2⟩ := idxOf_some h
   refine ⟨by omega, ?_⟩
   rw [show j - n = (j - (n + 1)) + 1 by omega]
   simpa using h2
def Gh.order (G : Gh) (L : Nat) (m : List Nat) : Gh where
 O := G.O
 β := fun l j => if l = L then G.β L (m.getD j 0) else G.β l j
 n := G.n
 sz := fun l j => if l = L then G.sz L (m.getD j 0) else G.sz l j
section
variable {G : Gh} {w : World} {L : Nat} {μ : Mu} {tm : Array Value} {s : S}
theorem Rel.refr (R : Rel G L s μ tm w) {fr' : Fr} (hf : ∀ t, LVR G w L s.lam.length (fr' t) (tm.getD t undef) ∧ ∀ b, Owns (fr' t) (tm.getD t undef) b → Owns (s.fr t) (tm.getD t undef) b) :
  Rel G L { s with fr := fr' } μ tm w ∧ (∀ l b, OwnsAt G w fr' tm (μ ++ [s.lam]) l b → OwnsAt G w s.fr tm (μ ++ [s.lam]) l b) := by
 have hown : ∀ l b, OwnsAt G w fr' tm (μ ++ [s.lam]) l b → OwnsAt G w s.fr tm (μ ++ [s.lam]) l b := by
  intro l b h
  cases l with
  | fr t => exact (hf t).2 b h
  | ob lev i k => exact h
 exact ⟨⟨R.lev, fun t => (hf t).1, R.lam, R.mu, R.inj, fun l l' b h h' => R.own l l' b (hown l b h) (hown l' b h'), fun l b lev i h h' => R.apart l b lev i (hown l b h) h', R.nlt, R.nL, R.ngt⟩, hown⟩
theorem Le_order (m : List Nat) (h0 : G.n L = 0) : Le G w (G.order L m) w := by
 refine ⟨fun _ _ _ h hb => ⟨h, hb⟩, fun lev i h => ?_, fun _ _ _ h hc => ⟨h, hc⟩, fun b cur e fz h => ⟨cur, fz, h, rfl⟩⟩
 have hne : lev ≠ L := fun e => by subst e; omega
 simp only [Gh.order, hne, if_false, and_self, and_true]
 exact h
mutual
theorem rename_rel {m : List Nat} {nl : Nat} (h0 : G.n L = 0) : ∀ {x y : LV} {v : Value}, rename m x = some y → LVR G w L nl x v → LVR (G.order L m) w L m.length y v ∧ (∀ b, Owns y v b ↔ Owns x v b) ∧ ((∀ xs, x ≠ .osl xs) → ∀ xs, y ≠ .osl xs)
 | .cv c, y, v, hr, h => by
  simp only [rename, Option.some.injEq] at hr
  subst hr
  refine ⟨?_, fun b => Iff.rfl, fun _ => by simp⟩
  simp only [LVR] at h ⊢
  exact VR_mono (Le_order m h0) c v h
 | .osl xs, y, v, hr, h => by
  simp only [rename, Option.some.injEq] at hr
  subst hr
  refine ⟨?_, fun b => Iff.rfl, fun h => absurd rfl (h _)⟩
  simp only [LVR] at h ⊢
  exact Owned_mono (Le_order m h0) (fun _ _ _ _ => ⟨rfl, rfl⟩) h
 | .loc i off, y, v, hr, h => by
  simp only [rename] at hr
  obtain ⟨j, hj, hr⟩ := opt_some.1 hr
  simp only [Option.some.injEq] at hr
  subst hr
  obtain ⟨_, hm⟩ := idxOf_some hj
  simp only [Nat.sub_zero] at hm
  have hlt : j < m.length := (List.getElem?_eq_some_iff.1 hm).1
  have hgd : m.getD j 0 = i := by rw [List.getD_eq_getElem?_getD, hm]; rfl
  simp only [LVR] at h ⊢
  exact ⟨⟨hlt, by simp only [Gh.order, if_true, hgd]; exact h.2⟩, fun b => by simp [Owns], fun _ => by simp⟩
 | .lsl i off len, y, v, hr, h => by
  simp only [rename] at hr
  obtain ⟨j, hj, hr⟩ := opt_some.1 hr
  simp only [Option.some.injEq] at hr
  subst hr
  obtain ⟨_, hm⟩ := idxOf_some hj
  simp only [Nat.sub_zero] at hm
  have hlt : j < m.length := (List.getElem?_eq_some_iff.1 hm).1
  have hgd : m.getD j 0 = i := by rw [List.getD_eq_getElem?_getD, hm]; rfl
  simp only [LVR] at h ⊢
  refine ⟨⟨hlt, ?_⟩, fun b => by simp [Owns], fun _ => by simp⟩
  simp only [Gh.order, if_true, hgd]
  exact h.2
 | .lclo f caps, y, v, hr, h => by
  simp only [rename] at hr
  obtain ⟨l, hl, hr⟩ := opt_some.1 hr
  simp only [Option.some.injEq] at hr
  subst hr
  simp only [LVR] at h ⊢
  obtain ⟨vs, e, hv⟩ := h
  exact ⟨⟨vs, e, renames_rel h0 hl hv⟩, fun b => by simp [Owns], fun _ => by simp⟩
 | .ltup xs, y, v, hr, h => by
  simp only [rename] at hr
  obtain ⟨l, hl, hr⟩ := opt_some.1 hr
  simp only [Option.some.injEq] at hr
  subst hr
  simp only [LVR] at h ⊢
  obtain ⟨vs, e, hv⟩ := h
  exact ⟨⟨vs, e, renames_rel h0 hl hv⟩, fun b => by simp [Owns], fun _ => by simp⟩
 | .mloc i, y, v, hr, h => by
  simp only [rename] at hr
  obtain ⟨j, hj, hr⟩ := opt_some.1 hr
  simp only [Option.some.injEq] at hr
  subst hr
  obtain ⟨_, hm⟩ := idxOf_some hj
  simp only [Nat.sub_zero] at hm
  have hlt : j < m.length := (List.getElem?_eq_some_iff.1 hm).1
  have hgd : m.getD j 0 = i := by rw [List.getD_eq_getElem?_getD, hm]; rfl
  simp only [LVR] at h ⊢
  exact ⟨⟨hlt, by simp only [Gh.order, if_true, hgd]; exact h.2⟩, fun b => by simp [Owns], fun _ => by simp⟩
 | .tloc i t n, y, v, hr, h => by
  simp only [rename] at hr
  obtain ⟨j, hj, hr⟩ := opt_some.1 hr
  simp only [Option.some.injEq] at hr
  subst hr
  obtain ⟨_, hm⟩ := idxOf_some hj
  simp only [Nat.sub_zero] at hm
  have hlt : j < m.length := (List.getElem?_eq_some_iff.1 hm).1
  have hgd : m.getD j 0 = i := by rw [List.getD_eq_getElem?_getD, hm]; rfl
  simp only [LVR] at h ⊢
  exact ⟨⟨hlt, by simp only [Gh.order, if_true, hgd]; exact h.2⟩, fun b => by simp [Owns], fun _ => by simp⟩
theorem renames_rel {m : List Nat} {nl : Nat} (h0 : G.n L = 0) : ∀ {xs ys : List LV} {vs : List Value}, renames m xs = some ys → LVRL G w L nl xs vs → LVRL (G.order L m) w L m.length ys vs
 | [], ys, vs, hr, h => by
  simp only [renames, Option.some.injEq] at hr
  subst hr
  simpa [LVRL] using h
 | x :: xs, ys, vs, hr, h => by
  simp only [renames] at hr
  obtain ⟨y, h1, hr⟩ := opt_some.1 hr
  obtain ⟨l, h2, hr⟩ := opt_some.1 hr
  simp only [Option.some.injEq] at hr
  subst hr
  simp only [LVRL] at h ⊢
  obtain ⟨v, vr, e, h3, h4, h5⟩ := h
  obtain ⟨k1, k2, k3⟩ := rename_rel h0 h1 h4
  exact ⟨v, vr, e, k3 h3, k1, renames_rel h0 h2 h5⟩
end
theorem renames_get {m : List Nat} : ∀ {xs ys : List LV}, renames m xs = some ys → ys.length = xs.length ∧ ∀ (j : Nat) y, ys[j]? = some y → ∃ x, xs[j]? = some x ∧ rename m x = some y
 | [], ys, h => by simp only [renames, Option.some.injEq] at h; subst h; exact ⟨rfl, fun j y hy => by simp at hy⟩
 | x :: xs, ys, h => by
  simp only [renames] at h
  obtain ⟨y, h1, h⟩ := opt_some.1 h
  obtain ⟨r, h2, h⟩ := opt_some.1 h
  simp only [Option.some.injEq] at h
  subst h
  obtain ⟨h3, h4⟩ := renames_get h2
  refine ⟨by simp [h3], fun j z hz => ?_⟩
  cases j with
  | zero => simp only [List.getElem?_cons_zero, Option.some.injEq] at hz; subst hz; exact ⟨x, rfl, h1⟩
  | succ j => exact h4 j z (by simpa using hz)
inductive ObRen (m : List Nat) : Ob → Ob → Prop where
 | dead : ObRen m .dead .dead
 | arr {sz cs} : ObRen m (.arr sz cs) (.arr sz cs)
 | map {ks vs} : ObRen m (.map ks vs) (.map ks vs)
 | cells {cs ds} : renames m cs = some ds → ObRen m (.cells cs) (.cells ds)
theorem renameObs_get {m : List Nat} : ∀ {l l' : List Ob}, renameObs m l = some l' → l'.length = l.length ∧ ∀ i, ObRen m (lamOb l i) (lamOb l' i)
 | [], l', h => by simp only [renameObs, Option.some.injEq] at h; subst h; exact ⟨rfl, fun i => by simp only [lamOb, List.getElem?_nil]; exact .dead⟩
 | .dead :: l, l', h => by
  simp only [renameObs] at h
  obtain ⟨r, h1, h⟩ := opt_some.1 h
  simp only [Option.some.injEq] at h
  subst h
  obtain ⟨h2, h3⟩ := renameObs_get h1
  refine ⟨by simp [h2], fun i => ?_⟩
  cases i with
  | zero => exact .dead
  | succ i => exact h3 i
 | .arr sz cs :: l, l', h => by
  simp only [renameObs] at h
  obtain ⟨r, h1, h⟩ := opt_some.1 h
  simp only [Option.some.injEq] at h
  subst h
  obtain ⟨h2, h3⟩ := renameObs_get h1
  refine ⟨by simp [h2], fun i => ?_⟩
  cases i with
  | zero => exact .arr
  | succ i => exact h3 i
 | .map ks vs :: l, l', h => by
  simp only [renameObs] at h
  obtain ⟨r, h1, h⟩ := opt_some.1 h
  simp only [Option.some.injEq] at h
  subst h
  obtain ⟨h2, h3⟩ := renameObs_get h1
  refine ⟨by simp [h2], fun i => ?_⟩
  cases i with
  | zero => exact .map
  | succ i => exact h3 i
 | .cells cs :: l, l', h => by
  simp only [renameObs] at h
  obtain ⟨ds, h0, h⟩ := opt_some.1 h
  obtain ⟨r, h1, h⟩ := opt_some.1 h
  simp only [Option.some.injEq] at h
  subst h
  obtain ⟨h2, h3⟩ := renameObs_get h1
  refine ⟨by simp [h2], fun i => ?_⟩
  cases i with
  | zero => exact .cells h0
  | succ i => exact h3 i
theorem ObRen.live {m : List Nat} {o o' : Ob} (h : ObRen m o o') : isLive o' ↔ isLive o := by cases h <;> exact Iff.rfl
theorem lamOb_map {m : List Nat} {l : Lam} {j : Nat} (h : isLive (lamOb (m.map (lamOb l)) j)) : j < m.length ∧ lamOb (m.map (lamOb l)) j = lamOb l (m.getD j 0) := by
 have hj := lamOb_lt h
 simp only [List.length_map] at hj
 refine ⟨hj, ?_⟩
 have e : (m.map (lamOb l))[j]? = some (lamOb l (m.getD j 0)) := by
  rw [List.getElem?_map, List.getElem?_eq_getElem hj, List.getD_eq_getElem?_getD, List.getElem?_eq_getElem hj]
  rfl
 simp only [lamOb, e]
theorem Rel.reorder (R : Rel G L s μ tm w) (hp : s.pushed = false) {m : List Nat} (hm : m.Nodup) {fr' : Fr} {l' : Lam} (hf : ∀ t, rename m (s.fr t) = some (fr' t)) (hl : renameObs m (m.map (lamOb s.lam)) = some l') :
  Rel (G.order L m) L { fr := fr', lam := l', pushed := false } μ tm w ∧ Ext L (TouchS G w s μ tm) G w (G.order L m) w (TouchS (G.order L m) w { fr := fr', lam := l', pushed := false } μ tm) := by
 have hμ := R.lev
 have h0 : G.n L = 0 := by have := R.nL; rw [hp] at this; simpa using this
 have hle : Le G w (G.order L m) w := Le_order m h0
 obtain ⟨hll, hlg⟩ := renameObs_get hl
 have hll' : l'.length = m.length := by rw [hll]; simp
 have eL : ∀ i, obAt (μ ++ [s.lam]) L i = lamOb s.lam i := fun i => by rw [← hμ]; exact muOb_eq
 have eL' : ∀ i, obAt (μ ++ [l']) L i = lamOb l' i := fun i => by rw [← hμ]; exact muOb_eq
 have hβ : ∀ lev i, lev ≠ L → (G.order L m).β lev i = G.β lev i := fun lev i h => by simp [Gh.order, h]
 have hβL : ∀ j, (G.order L m).β L j = G.β L (m.getD j 0) := fun j => by simp [Gh.order]
 have hlv : ∀ j, isLive (lamOb l' j) → j < m.length ∧ isLive (lamOb s.lam (m.getD j 0)) ∧ ObRen m (lamOb s.lam (m.getD j 0)) (lamOb l' j) := by
  intro j h
  have h1 := (hlg j).live.1 h
  obtain ⟨h2, h3⟩ := lamOb_map h1
  have h4 := hlg j
  rw [h3] at h1 h4
  exact ⟨h2, h1, h4⟩
 have hlive : ∀ lev i, isLive (obAt (μ ++ [l']) lev i) → (lev < L ∧ obAt (μ ++ [l']) lev i = obAt (μ ++ [s.lam]) lev i ∧ (G.order L m).β lev i = G.β lev i ∧ isLive (obAt (μ ++ [s.lam]) lev i)) ∨
   (lev = L ∧ i < m.length ∧ isLive (obAt (μ ++ [s.lam]) L (m.getD i 0)) ∧ (G.order L m).β lev i = G.β L (m.getD i 0) ∧ ObRen m (lamOb s.lam (m.getD i 0)) (lamOb l' i)) := by
  intro lev i h
  rcases live_cases (s := { fr := fr', lam := l', pushed := false }) hμ h with ⟨h1, h2⟩ | ⟨rfl, h1, h2⟩
  ·have e : obAt (μ ++ [l']) lev i = obAt (μ ++ [s.lam]) lev i := by rw [obAt, obAt, muOb_lt (by omega), muOb_lt (by omega)]
   exact .inl ⟨h1, e, hβ lev i (by omega), by rw [← e]; exact h⟩
  ·have h' : isLive (lamOb l' i) := by rw [← eL']; exact h
   obtain ⟨a1, a2, a3⟩ := hlv i h'
   exact .inr ⟨rfl, a1, by rw [eL]; exact a2, hβL i, a3⟩
 have hown : ∀ q b, OwnsAt (G.order L m) w fr' tm (μ ++ [l']) q b → (∃ t, q = .fr t ∧ OwnsAt G w s.fr tm (μ ++ [s.lam]) q b) ∨ (∃ lev i k, q = .ob lev i k ∧ lev < L ∧ OwnsAt G w s.fr tm (μ ++ [s.lam]) q b) ∨
   (∃ i k, q = .ob L i k ∧ i < m.length ∧ OwnsAt G w s.fr tm (μ ++ [s.lam]) (.ob L (m.getD i 0) k) b) := by
  intro q b h
  cases q with
  | fr t => exact .inl ⟨t, rfl, ((rename_rel h0 (hf t) (R.fr t)).2.1 b).1 h⟩
  | ob lev i k =>
   have hl' := ownsAt_live h
   rcases hlive lev i hl' with ⟨h1, h2, h3, _⟩ | ⟨rfl, h1, h2, h3, h4⟩
   ·exact .inr (.inl ⟨lev, i, k, rfl, h1, ownsAt_ob (fr' := fr') (tm' := tm) h2 h3 rfl h⟩)
   ·refine .inr (.inr ⟨i, k, rfl, h1, ?_⟩)
    simp only [OwnsAt, eL', h3] at h
    split at h <;> try (exact h.elim)
    rename_i ds hds
    split at h <;> try (exact h.elim)
    rename_i y hy
    obtain ⟨cur, e', fz, hb, ho⟩ := h
    rw [hds] at h4
    generalize hq : lamOb s.lam (m.getD i 0) = q at h4
    cases h4 with
    | cells hr =>
     obtain ⟨_, hg⟩ := renames_get hr
     obtain ⟨x, hx, hxy⟩ := hg k y hy
     have hob := R.lam (m.getD i 0)
     rw [hq] at hob
     simp only [ObR] at hob
     obtain ⟨cur2, e2, fz2, hb2, _, _, _, hrr⟩ := hob
     rw [hb2] at hb
     obtain ⟨rfl, rfl, rfl⟩ := (Obj.cells.injEq ..).mp (Option.some.inj hb)
     simp only [OwnsAt, eL, hq, hx]
     exact ⟨cur2, e2, fz2, hb2, ((rename_rel h0 hxy (hrr k x hx)).2.1 b).1 ho⟩
 have hget : ∀ {i j : Nat}, i < m.length → j < m.length → m.getD i 0 = m.getD j 0 → i = j := by
  intro i j hi hj e
  rw [List.getD_eq_getElem?_getD, List.getD_eq_getElem?_getD, List.getElem?_eq_getElem hi, List.getElem?_eq_getElem hj] at e
  exact (List.getElem_inj hm).1 (by simpa using e)
 have hsz : ∀ j, (G.order L m).sz L j = G.sz L (m.getD j 0) := fun j => by simp [Gh.order]
 refine ⟨⟨hμ, fun t => ?_, fun i => ?_, fun lev i hlt => ?_, fun lev i lev' i' h h' e => ?_, fun q q' b h h' => ?_, fun q b lev i h h' e => ?_, R.nlt, ?_, R.ngt⟩, ⟨hle, rfl, rfl, rfl, Nat.le_refl _, fun _ _ _ => ⟨rfl, rfl⟩, fun b hb => .inl ?_, fun l hlt => ⟨fun i => ?_, rfl⟩⟩⟩
 ·simp only [hll']
  exact (rename_rel h0 (hf t) (R.fr t)).1
 ·simp only [hll', hβL, hsz]
  by_cases hd : isLive (lamOb l' i)
  ·obtain ⟨_, _, hr⟩ := hlv i hd
   have hob := R.lam (m.getD i 0)
   revert hob hr
   generalize lamOb s.lam (m.getD i 0) = q
   generalize lamOb l' i = q'
   intro hr hob
   cases hr with
   | dead => trivial
   | arr =>
    simp only [ObR] at hob ⊢
    obtain ⟨hk, cur, e, fz, h1, h2, h3, h4, h5⟩ := hob
    exact ⟨hk, cur, e, fz, h1, h2, h3, h4, fun j x hx => VR_mono hle x _ (h5 j x hx)⟩
   | map =>
    simp only [ObR] at hob ⊢
    obtain ⟨es, clk, h1, h2, h3⟩ := hob
    exact ⟨es, clk, h1, h2, MapR_mono hle h3⟩
   | cells hrr =>
    obtain ⟨hln, hg⟩ := renames_get hrr
    simp only [ObR] at hob ⊢
    obtain ⟨cur, e, fz, h1, h2, h3, h4, h5⟩ := hob
    refine ⟨cur, e, fz, h1, h2, h3, by rw [hln]; exact h4, fun j y hy => ?_⟩
    obtain ⟨x, hx, hxy⟩ := hg j y hy
    exact (rename_rel h0 hxy (h5 j x hx)).1
  ·generalize hq : lamOb l' i = q at hd
   cases q with
   | dead => trivial
   | cells => exact absurd trivial hd
   | arr => exact absurd trivial hd
   | map => exact absurd trivial hd
 ·have hne : lev ≠ L := by omega
  rw [hβ lev i hne, show (G.order L m).sz lev i = G.sz lev i by simp [Gh.order, hne]]
  exact ObR_mono (hle.below lev) (Nat.le_refl _) (fun _ h => by omega) (fun _ => ⟨rfl, rfl⟩) (fun _ _ _ _ _ _ _ _ _ _ _ => ⟨rfl, rfl⟩) (R.mu lev i hlt)
 ·rcases hlive lev i h with ⟨h1, _, h3, h4⟩ | ⟨rfl, h1, h2, h3, _⟩ <;> rcases hlive lev' i' h' with ⟨h1', _, h3', h4'⟩ | ⟨rfl, h1', h2', h3', _⟩
  ·rw [h3, h3'] at e; exact R.inj lev i lev' i' h4 h4' e
  ·rw [h3, h3'] at e; have := (R.inj _ _ _ _ h4 h2' e).1; omega
  ·rw [h3, h3'] at e; have := (R.inj _ _ _ _ h2 h4' e).1; omega
  ·rw [h3, h3'] at e
   exact ⟨rfl, hget h1 h1' (R.inj _ _ _ _ h2 h2' e).2⟩
 ·rcases hown q b h with ⟨t, rfl, h1⟩ | ⟨lev, i, k, rfl, hlt, h1⟩ | ⟨i, k, rfl, hi, h1⟩ <;> rcases hown q' b h' with ⟨t', rfl, h1'⟩ | ⟨lev', i', k', rfl, hlt', h1'⟩ | ⟨i', k', rfl, hi', h1'⟩
  ·exact R.own _ _ b h1 h1'
  ·exact R.own _ _ b h1 h1'
  ·have := R.own _ _ b h1 h1'; cases this
  ·exact R.own _ _ b h1 h1'
  ·exact R.own _ _ b h1 h1'
  ·have := R.own _ _ b h1 h1'; injection this with a1 a2 a3; omega
  ·have := R.own _ _ b h1 h1'; cases this
  ·have := R.own _ _ b h1 h1'; injection this with a1 a2 a3; omega
  ·have := R.own _ _ b h1 h1'
   injection this with a1 a2 a3
   rw [hget hi hi' a2, a3]
 ·have hlv' : ∃ lev2 i2, isLive (obAt (μ ++ [s.lam]) lev2 i2) ∧ G.β lev2 i2 = b := by
   rcases hlive lev i h' with ⟨h1, _, h3, h4⟩ | ⟨rfl, h1, h2, h3, _⟩
   ·exact ⟨lev, i, h4, by rw [← h3]; exact e⟩
   ·exact ⟨_, _, h2, by rw [← h3]; exact e⟩
  obtain ⟨lev2, i2, h2, e2⟩ := hlv'
  rcases hown q b h with ⟨t, rfl, h1⟩ | ⟨lev, i, k, rfl, hlt, h1⟩ | ⟨i, k, rfl, hi, h1⟩
  ·exact R.apart _ b lev2 i2 h1 h2 e2
  ·exact R.apart _ b lev2 i2 h1 h2 e2
  ·exact R.apart _ b lev2 i2 h1 h2 e2
 ·simp only [Bool.false_eq_true, if_false]
  exact h0
 ·rcases hb with ⟨q, hb⟩ | ⟨lev, i, hb, e⟩
  ·rcases hown q b hb with ⟨t, rfl, h1⟩ | ⟨lev, i, k, rfl, hlt, h1⟩ | ⟨i, k, rfl, hi, h1⟩
   ·exact .inl ⟨_, h1⟩
   ·exact .inl ⟨_, h1⟩
   ·exact .inl ⟨_, h1⟩
  ·rcases hlive lev i hb with ⟨h1, _, h3, h4⟩ | ⟨rfl, h1, h2, h3, _⟩
   ·exact .inr ⟨lev, i, h4, by rw [← h3]; exact e⟩
   ·exact .inr ⟨_, _, h2, by rw [← h3]; exact e⟩
 ·have hne : l ≠ L := by omega
  simp [Gh.order, hne]
theorem liveA_rel {mo nl : Nat} {x y : LV} {v : Value} (h : liveA mo x = some y) (hx : LVR G w L nl x v) : LVR G w L nl y v ∧ ∀ b, Owns y v b → Owns x v b := by
 unfold liveA at h
 split at h
 ·simp only [Option.some.injEq] at h
  subst h
  exact ⟨LVR_strip hx, fun b hb => absurd hb Owns_strip⟩
 ·obtain ⟨xs, h1, h2⟩ := opt_some.1 h
  simp only [Option.some.injEq] at h2
  subst h2
  exact getOsl_rel h1 hx
 ·obtain ⟨xs, h1, h2⟩ := opt_some.1 h
  simp only [Option.some.injEq] at h2
  subst h2
  exact ⟨by simp only [LVR]; exact getSl_rel h1 hx, fun b hb => by simp [Owns] at hb⟩
theorem lives_fr {fr : Fr} : ∀ {live : List (Nat × Nat)} {vs : List LV}, livesA fr live = some vs → ∀ t, mkFr (zipFr (live.map Prod.fst) vs) t = .cv .undef ∨ ∃ mo y, liveA mo (fr t) = some y ∧ mkFr (zipFr (live.map Prod.fst) vs) t = y
 | [], vs, h, t => by simp only [livesA, Option.some.injEq] at h; subst h; exact .inl rfl
 | q :: r, vs, h, t => by
  simp only [livesA] at h
  obtain ⟨v, h1, h⟩ := opt_some.1 h
  obtain ⟨l, h2, h⟩ := opt_some.1 h
  simp only [Option.some.injEq] at h
  subst h
  simp only [List.map_cons, zipFr, mkFr]
  split
  ·rename_i e
   have := Nat.eq_of_beq_eq_true e
   subst this
   exact .inr ⟨q.2, v, h1, rfl⟩
  ·exact lives_fr h2 t
theorem renames_fr {m : List Nat} : ∀ {ts : List Nat} {vs us : List LV}, renames m vs = some us → ∀ t, rename m (mkFr (zipFr ts vs) t) = some (mkFr (zipFr ts us) t)
 | [], vs, us, h, t => by simp [zipFr, mkFr, rename]
 | u :: ts, [], us, h, t => by simp only [renames, Option.some.injEq] at h; subst h; simp [zipFr, mkFr, rename]
 | u :: ts, v :: vs, us, h, t => by
  simp only [renames] at h
  obtain ⟨y, h1, h⟩ := opt_some.1 h
  obtain ⟨l, h2, h⟩ := opt_some.1 h
  simp only [Option.some.injEq] at h
  subst h
  simp only [zipFr, mkFr]
  split
  ·exact h1
  ·exact renames_fr h2 t
theorem Rel.weaken (R : Rel G L s μ tm w) {i : Nat} {cs cs' : List LV} (ho : lamOb s.lam i = .cells cs) (hl : cs'.length = cs.length)
  (hc : ∀ (k : Nat) x', cs'[k]? = some x' → ∃ x, cs[k]? = some x ∧ ∀ v, LVR G w L s.lam.length x v → LVR G w L s.lam.length x' v ∧ ∀ b, Owns x' v b → Owns x v b) :
  Rel G L { s with lam := s.lam.set i (.cells cs') } μ tm w ∧ Ext L (TouchS G w s μ tm) G w G w (TouchS G w { s with lam := s.lam.set i (.cells cs') } μ tm) := by
 have hμ := R.lev
 have hi : i < s.lam.length := lamOb_lt (by rw [ho]; trivial)
 have eL : ∀ (l : Lam) j, obAt (μ ++ [l]) L j = lamOb l j := fun l j => by rw [← hμ]; exact muOb_eq
 have hlam : ∀ j, lamOb (s.lam.set i (.cells cs')) j = if j = i then .cells cs' else lamOb s.lam j := by
  intro j
  simp only [lamOb]
  by_cases e : j = i
  ·subst e; rw [List.getElem?_set_self hi]; simp
  ·rw [List.getElem?_set_ne (by omega)]; simp [e]
 have hlt : ∀ lev j, lev < L → obAt (μ ++ [s.lam.set i (.cells cs')]) lev j = obAt (μ ++ [s.lam]) lev j := fun lev j h => by rw [obAt, obAt, muOb_lt (by omega), muOb_lt (by omega)]
 have hgt : ∀ (l : Lam) lev j, L < lev → obAt (μ ++ [l]) lev j = .dead := fun l lev j h => by rw [obAt, muOb_gt (by omega)]
 have hlive : ∀ lev j, isLive (obAt (μ ++ [s.lam.set i (.cells cs')]) lev j) → isLive (obAt (μ ++ [s.lam]) lev j) := by
  intro lev j h
  rcases Nat.lt_trichotomy lev L with h1 | h1 | h1
  ·rw [hlt lev j h1] at h; exact h
  ·subst h1
   rw [eL, hlam] at h
   rw [eL]
   split at h
   ·rename_i e; rw [e, ho]; trivial
   ·exact h
  ·rw [hgt _ lev j h1] at h; exact h.elim
 have hob := R.lam i
 rw [ho] at hob
 simp only [ObR] at hob
 obtain ⟨cur, e, fz, h1, h2, h3, h4, h5⟩ := hob
 have hown : ∀ q b, OwnsAt G w s.fr tm (μ ++ [s.lam.set i (.cells cs')]) q b → OwnsAt G w s.fr tm (μ ++ [s.lam]) q b := by
  intro q b h
  cases q with
  | fr t => exact h
  | ob lev j k =>
   simp only [OwnsAt] at h ⊢
   rcases Nat.lt_trichotomy lev L with h6 | h6 | h6
   ·rw [hlt lev j h6] at h; exact h
   ·subst h6
    rw [eL, hlam] at h
    rw [eL]
    by_cases ej : j = i
    ·subst ej
     simp only [if_true] at h
     split at h <;> try (exact h.elim)
     rename_i x' hx'
     obtain ⟨x, hx, hv⟩ := hc k x' hx'
     obtain ⟨cur2, e2, fz2, hb2, ho2⟩ := h
     rw [h1] at hb2
     obtain ⟨rfl, rfl, rfl⟩ := (Obj.cells.injEq ..).mp (Option.some.inj hb2)
     rw [ho]
     simp only [hx]
     exact ⟨cur, e, fz, h1, (hv _ (h5 k x hx)).2 b ho2⟩
    ·rw [if_neg ej] at h; exact h
   ·rw [hgt _ lev j h6] at h; exact h.elim
 refine ⟨⟨hμ, fun t => ?_, fun j => ?_, R.mu, fun lev j lev' j' h h' => R.inj lev j lev' j' (hlive lev j h) (hlive lev' j' h'), fun q q' b h h' => R.own q q' b (hown q b h) (hown q' b h'), fun q b lev j h h' => R.apart q b lev j (hown q b h) (hlive lev j h'), R.nlt, ?_, R.ngt⟩, Ext.refl G w fun b hb => ?_⟩
 ·simp only [List.length_set]; exact R.fr t
 ·simp only [List.length_set]
  rw [hlam]
  split
  ·rename_i ej
   subst ej
   simp only [ObR]
   refine ⟨cur, e, fz, h1, h2, h3, by rw [hl]; exact h4, fun k x' hx' => ?_⟩
   obtain ⟨x, hx, hv⟩ := hc k x' hx'
   exact (hv _ (h5 k x hx)).1
  ·exact R.lam j
 ·simp only [List.length_set]; exact R.nL
 ·rcases hb with ⟨q, hb⟩ | ⟨lev, j, hb, e⟩
  ·exact .inl ⟨q, hown q b hb⟩
  ·exact .inr ⟨lev, j, hlive lev j hb, e⟩
theorem cellsN_sound {α : Type} {nl : Nat} : ∀ {ms : List Nat} {cs : List LV} {k : List LV → Option α} {r : α}, cellsN ms cs k = some r →
  ∃ cs', k cs' = some r ∧ cs'.length = cs.length ∧ ∀ (j : Nat) x', cs'[j]? = some x' → ∃ x, cs[j]? = some x ∧ ∀ v, LVR G w L nl x v → LVR G w L nl x' v ∧ ∀ b, Owns x' v b → Owns x v b
 | [], cs, k, r, h => ⟨cs, h, rfl, fun j x hx => ⟨x, hx, fun v hv => ⟨hv, fun _ hb => hb⟩⟩⟩
 | m :: ms, [], k, r, h => by simp [cellsN] at h
 | m :: ms, c :: cs, k, r, h => by
  simp only [cellsN, cellN] at h
  have key : ∀ c', (cellsN ms cs fun r => k (c' :: r)) = some r → (∀ v, LVR G w L nl c v → LVR G w L nl c' v ∧ ∀ b, Owns c' v b → Owns c v b) →
    ∃ cs', k cs' = some r ∧ cs'.length = (c :: cs).length ∧ ∀ (j : Nat) x', cs'[j]? = some x' → ∃ x, (c :: cs)[j]? = some x ∧ ∀ v, LVR G w L nl x v → LVR G w L nl x' v ∧ ∀ b, Owns x' v b → Owns x v b := by
   intro c' h hc
   obtain ⟨cs', h1, h2, h3⟩ := cellsN_sound h
   refine ⟨c' :: cs', h1, by simp [h2], fun j x' hx' => ?_⟩
   cases j with
   | zero => simp only [List.getElem?_cons_zero, Option.some.injEq] at hx'; subst hx'; exact ⟨c, rfl, hc⟩
   | succ j => exact h3 j x' (by simpa using hx')
  split at h
  ·exact key c h fun v hv => ⟨hv, fun _ hb => hb⟩
  ·obtain ⟨xs, h1, h2⟩ := opt_some.1 h
   exact key _ h2 fun v hv => getOsl_rel h1 hv
  ·obtain ⟨x, h1, h2⟩ := opt_some.1 h
   exact key _ h2 fun v hv => ⟨by simp only [LVR]; exact getCv_rel h1 hv, fun b hb => by simp [Owns] at hb⟩
  ·obtain ⟨xs, h1, h2⟩ := opt_some.1 h
   exact key _ h2 fun v hv => ⟨by simp only [LVR]; exact getSl_rel h1 hv, fun b hb => by simp [Owns] at hb⟩
theorem Rel.setPushed (R : Rel G L s μ tm w) : Rel (G.push L s.lam.length) L { s with pushed := true } μ tm w ∧
  Ext L (TouchS G w s μ tm) G w (G.push L s.lam.length) w (TouchS (G.push L s.lam.length) w { s with pushed := true } μ tm) := by
 have hle : Le G w (G.push L s.lam.length) w := Le_push fun i h => by
  have := R.nL
  cases hp : s.pushed <;> simp [hp] at this <;> omega
 have hbel : ∀ lev, lev < L → (G.push L s.lam.length).below lev = G.below lev := by
  intro lev h
  simp only [Gh.below, Gh.push, Gh.mk.injEq, true_and, and_true]
  funext l
  by_cases hl : l ≤ lev
  ·simp only [hl, if_true]
   rw [if_neg (by omega)]
  ·simp only [hl, if_false]
 have hO : ∀ q b, OwnsAt (G.push L s.lam.length) w s.fr tm (μ ++ [s.lam]) q b → OwnsAt G w s.fr tm (μ ++ [s.lam]) q b := by
  intro q b h
  cases q <;> exact h
 refine ⟨⟨R.lev, fun t => LVR_mono hle (Nat.le_refl _) (fun i _ => ⟨rfl, rfl⟩) _ _ (fun b _ => ⟨rfl, rfl⟩) (R.fr t), fun i => ?_, fun lev i h => ?_, R.inj,
  fun q q' b h h' => R.own q q' b (hO q b h) (hO q' b h'), fun q b lev i h h' => R.apart q b lev i (hO q b h) h', fun lev h => ?_, ?_, fun lev h => ?_⟩, ?_⟩
 ·exact ObR_mono hle (Nat.le_refl _) (fun i _ => ⟨rfl, rfl⟩) (fun _ => ⟨rfl, rfl⟩) (fun _ _ _ _ _ _ _ _ _ _ _ => ⟨rfl, rfl⟩) (R.lam i)
 ·rw [hbel lev h]; exact R.mu lev i h
 ·simp only [Gh.push]; rw [if_neg (by omega)]; exact R.nlt lev h
 ·simp [Gh.push]
 ·simp only [Gh.push]; rw [if_neg (by omega)]; exact R.ngt lev h
 ·refine ⟨hle, rfl, rfl, rfl, Nat.le_refl _, fun _ _ _ => ⟨rfl, rfl⟩, fun b hb => .inl ?_, fun l hl => ⟨fun _ => ⟨rfl, rfl⟩, ?_⟩⟩
  ·rcases hb with ⟨q, hb⟩ | hb
   ·exact .inl ⟨q, hO q b hb⟩
   ·exact .inr hb
  ·simp only [Gh.push]; rw [if_neg (by omega)]
theorem obsK_sound {α : Type} : ∀ {obs : List (Nat × List Nat)} {G : Gh} {s : S} {k : S → Option α} {r : α}, obsK obs s k = some r → Rel G L s μ tm w →
  ∃ s' G', k s' = some r ∧ Rel G' L s' μ tm w ∧ Ext L (TouchS G w s μ tm) G w G' w (TouchS G' w s' μ tm)
 | [], G, s, k, r, h, R => ⟨s, G, h, R, Ext.refl G w fun _ hb => hb⟩
 | q :: l, G, s, k, r, h, R => by
  simp only [obsK] at h
  split at h
  ·obtain ⟨R1, E1⟩ := R.setPushed
   obtain ⟨s', G', h4, R2, E2⟩ := obsK_sound h R1
   exact ⟨s', G', h4, R2, E1.trans E2⟩
  split at h <;> try (simp at h; done)
  rename_i cs ho
  obtain ⟨cs', h1, h2, h3⟩ := cellsN_sound (G := G) (w := w) (L := L) (nl := s.lam.length) h
  obtain ⟨R1, E1⟩ := R.weaken ho h2 h3
  obtain ⟨s', G', h4, R2, E2⟩ := obsK_sound h1 R1
  exact ⟨s', G', h4, R2, E1.trans E2⟩
theorem maskK_sound {α : Type} {live : List (Nat × Nat)} {k : S → Option α} {r : α} (h : maskK live s k = some r) (R : Rel G L s μ tm w) :
  ∃ s' G', k s' = some r ∧ Rel G' L s' μ tm w ∧ Ext L (TouchS G w s μ tm) G w G' w (TouchS G' w s' μ tm) := by
 unfold maskK at h
 obtain ⟨vs, h1, h⟩ := opt_some.1 h
 obtain ⟨R1, hO⟩ := R.refr (fr' := mkFr (zipFr (live.map Prod.fst) vs)) fun t => by
  rcases lives_fr h1 t with e | ⟨mo, y, h2, e⟩
  ·rw [e]; exact ⟨by simp [LVR, VR], fun b hb => by simp [Owns] at hb⟩
  ·rw [e]; exact liveA_rel h2 (R.fr t)
 have E1 : Ext L (TouchS G w s μ tm) G w G w (TouchS G w { s with fr := mkFr (zipFr (live.map Prod.fst) vs) } μ tm) := Ext.refl G w fun b hb => by
  rcases hb with ⟨l, hb⟩ | hb
  ·exact .inl ⟨l, hO l b hb⟩
  ·exact .inr hb
 split at h
 ·exact ⟨_, G, h, R1, E1⟩
 ·rename_i hp
  obtain ⟨us, h2, h⟩ := opt_some.1 h
  obtain ⟨l, h3, h⟩ := opt_some.1 h
  obtain ⟨R2, E2⟩ := R1.reorder hp (reach_nodup _ _ _ _ (by simp)) (renames_fr h2) h3
  exact ⟨_, _, h, R2, E1.trans E2⟩
theorem two_true {x y : Bool} (h : (match x with | true => y | false => false) = true) : x = true ∧ y = true := by
 cases x <;> simp_all
theorem cut_le {m : Nat} : Le (G.cut L) w ((G.cut L).push L m) w := Le_push fun i h => by simp [Gh.cut] at h
theorem VR_under {m : Nat} (hg : ∀ lev, L < lev → G.n lev = 0) {c : CV} {v : Value} (hb : underC L m c = true) (h : VR G w c v) : VR ((G.cut L).push L m) w c v := by
 have key : ∀ c : CV, below L c = true → VR G w c v → VR ((G.cut L).push L m) w c v := fun c hb h => VR_mono cut_le _ _ (VR_cut c v hb h)
 cases c with
 | ref lev i off =>
  simp only [VR] at h ⊢
  refine ⟨?_, h.2⟩
  simp only [Gh.push, Gh.cut]
  simp only [underC] at hb
  split at hb
  ·rename_i hl
   have hl : lev < L := by simpa using hl
   rw [if_neg (by omega), if_pos hl]
   exact h.1
  ·rename_i hl
   have hl : ¬ lev < L := fun h => by rw [← Nat.blt_eq] at h; rw [h] at hl; cases hl
   have : lev = L := by
    rcases Nat.lt_or_ge L lev with h1 | h1
    ·have := hg lev h1; omega
    ·omega
   rw [if_pos this]
   simpa using hb
 | tref lev i t n =>
  simp only [VR] at h ⊢
  refine ⟨?_, h.2⟩
  simp only [Gh.push, Gh.cut]
  simp only [underC] at hb
  split at hb
  ·rename_i hl
   have hl : lev < L := by simpa using hl
   rw [if_neg (by omega), if_pos hl]
   exact h.1
  ·rename_i hl
   have hl : ¬ lev < L := fun h => by rw [← Nat.blt_eq] at h; rw [h] at hl; cases hl
   have : lev = L := by
    rcases Nat.lt_or_ge L lev with h1 | h1
    ·have := hg lev h1; omega
    ·omega
   rw [if_pos this]
   simpa using hb
 | _ => exact key _ hb h
mutual
theorem LVR_under {m nl : Nat} (hg : ∀ lev, L < lev → G.n lev = 0) : ∀ (x : LV) (v : Value), underV L m x = true → LVR G w L nl x v → LVR ((G.cut L).push L m) w L m x v
 | .cv c, v, hb, h => by
  simp only [LVR] at h ⊢
  exact VR_under hg hb h
 | .osl xs, v, hb, h => by
  simp only [LVR] at h ⊢
  have := Owned_cut (m := L) hb h
  rcases this with h | ⟨b, cap, cur, e, s, h1, h2, h3, h4, h5, h6, h7, h8, h9, h10⟩
  ·exact .inl h
  ·exact .inr ⟨b, cap, cur, e, s, h1, h2, h3, h4, h5, h6, h7, EL_mono cut_le b s 0 xs h8, h9, h10⟩
 | .loc i off, v, hb, h => by
  simp only [LVR] at h ⊢
  exact ⟨by simpa [underV] using hb, h.2⟩
 | .lsl i off len, v, hb, h => by
  simp only [LVR] at h ⊢
  exact ⟨by simpa [underV] using hb, h.2⟩
 | .mloc i, v, hb, h => by
  simp only [LVR] at h ⊢
  exact ⟨by simpa [underV] using hb, h.2⟩
 | .tloc i t n, v, hb, h => by
  simp only [LVR] at h ⊢
  exact ⟨by simpa [underV] using hb, h.2⟩
 | .lclo f caps, v, hb, h => by
  simp only [LVR] at h ⊢
  obtain ⟨vs, e, hl⟩ := h
  exact ⟨vs, e, LVRL_under hg caps _ (by simpa [underV] using hb) hl⟩
 | .ltup xs, v, hb, h => by simp [underV] at hb
theorem LVRL_under {m nl : Nat} (hg : ∀ lev, L < lev → G.n lev = 0) : ∀ (xs : List LV) (vs : List Value), underL L m xs = true → LVRL G w L nl xs vs → LVRL ((G.cut L).push L m) w L m xs vs
 | [], vs, hb, h => by simpa [LVRL] using h
 | x :: xs, vs, hb, h => by
  simp only [LVRL] at h ⊢
  simp only [underL] at hb
  obtain ⟨hb1, hb2⟩ := two_true hb
  obtain ⟨v, r, e, h0, h1, h2⟩ := h
  exact ⟨v, r, e, h0, LVR_under hg x v hb1 h1, LVRL_under hg xs r hb2 h2⟩
end
theorem underL_get {m : Nat} : ∀ {xs : List LV} {j : Nat} {x : LV}, underL L m xs = true → xs[j]? = some x → underV L m x = true
 | [], j, x, hb, h => by simp at h
 | y :: ys, j, x, hb, h => by
  simp only [underL] at hb
  obtain ⟨hb1, hb2⟩ := two_true hb
  cases j with
  | zero => simp only [List.getElem?_cons_zero, Option.some.injEq] at h; subst h; exact hb1
  | succ j => exact underL_get hb2 (by simpa using h)
theorem belowL_get {m : Nat} : ∀ {xs : List CV} {j : Nat} {x : CV}, belowL m xs = true → xs[j]? = some x → below m x = true
 | [], j, x, hb, h => by simp at h
 | y :: ys, j, x, hb, h => by
  obtain ⟨hb1, hb2⟩ := belowL_cons hb
  cases j with
  | zero => simp only [List.getElem?_cons_zero, Option.some.injEq] at h; subst h; exact hb1
  | succ j => exact belowL_get hb2 (by simpa using h)
theorem underObs_get {m : Nat} : ∀ {xs : List Ob} {j : Nat} {x : Ob}, underObs L m xs = true → xs[j]? = some x → underOb L m x = true
 | [], j, x, hb, h => by simp at h
 | y :: ys, j, x, hb, h => by
  simp only [underObs] at hb
  obtain ⟨hb1, hb2⟩ := two_true hb
  cases j with
  | zero => simp only [List.getElem?_cons_zero, Option.some.injEq] at h; subst h; exact hb1
  | succ j => exact underObs_get hb2 (by simpa using h)
theorem ObR_under {m nl b sz : Nat} (hg : ∀ lev, L < lev → G.n lev = 0) {o : Ob} (hb : underOb L m o = true) (h : ObR G w L nl b sz o) : ObR ((G.cut L).push L m) w L m b sz o := by
 cases o with
 | dead => trivial
 | cells cs =>
  simp only [ObR] at h ⊢
  obtain ⟨cur, e, fz, h1, h2, h3, h4, h5⟩ := h
  exact ⟨cur, e, fz, h1, h2, h3, h4, fun j x hx => LVR_under hg x _ (underL_get hb hx) (h5 j x hx)⟩
 | arr k cs =>
  simp only [ObR] at h ⊢
  obtain ⟨hk, cur, e, fz, h1, h2, h3, h4, h5⟩ := h
  exact ⟨hk, cur, e, fz, h1, h2, h3, h4, fun j x hx => VR_mono cut_le _ _ (VR_cut x _ (belowL_get hb hx) (h5 j x hx))⟩
 | map ks vs =>
  simp only [ObR] at h ⊢
  obtain ⟨es, clk, h1, h2, h3⟩ := h
  exact ⟨es, clk, h1, h2, h3.1, VRL_mono cut_le _ _ (VRL_cut vs _ hb h3.2)⟩
theorem Rel.trunc (R : Rel G L s μ tm w) (hp : s.pushed = true) {m : Nat} (hm : m ≤ s.lam.length) (hf : ∀ t, underV L m (s.fr t) = true) (hl : underObs L m (s.lam.take m) = true) :
  Rel ((G.cut L).push L m) L { s with lam := s.lam.take m } μ tm w ∧ (∀ b, TouchS ((G.cut L).push L m) w { s with lam := s.lam.take m } μ tm b → TouchS G w s μ tm b) := by
 have hμ := R.lev
 have hlen : (s.lam.take m).length = m := by simp; omega
 have eL : ∀ (l : Lam) j, obAt (μ ++ [l]) L j = lamOb l j := fun l j => by rw [← hμ]; exact muOb_eq
 have hlt : ∀ lev j, lev < L → obAt (μ ++ [s.lam.take m]) lev j = obAt (μ ++ [s.lam]) lev j := fun lev j h => by rw [obAt, obAt, muOb_lt (by omega), muOb_lt (by omega)]
 have hgt : ∀ (l : Lam) lev j, L < lev → obAt (μ ++ [l]) lev j = .dead := fun l lev j h => by rw [obAt, muOb_gt (by omega)]
 have hlam : ∀ i, lamOb (s.lam.take m) i = if i < m then lamOb s.lam i else .dead := by
  intro i
  by_cases h : i < m
  ·rw [if_pos h]; simp only [lamOb, List.getElem?_take_of_lt h]
  ·rw [if_neg h]; simp only [lamOb]; rw [List.getElem?_take_eq_none (by omega)]
 have hat : ∀ lev i, obAt (μ ++ [s.lam.take m]) lev i = obAt (μ ++ [s.lam]) lev i ∨ obAt (μ ++ [s.lam.take m]) lev i = .dead := by
  intro lev i
  rcases Nat.lt_trichotomy lev L with h | h | h
  ·exact .inl (hlt lev i h)
  ·subst h
   rw [eL, eL, hlam]
   split
   ·exact .inl rfl
   ·exact .inr rfl
  ·exact .inr (hgt _ lev i h)
 have hlive : ∀ lev i, isLive (obAt (μ ++ [s.lam.take m]) lev i) → isLive (obAt (μ ++ [s.lam]) lev i) := by
  intro lev i h
  rcases hat lev i with e | e
  ·rw [← e]; exact h
  ·rw [e] at h; exact h.elim
 have hown : ∀ q b, OwnsAt ((G.cut L).push L m) w s.fr tm (μ ++ [s.lam.take m]) q b → OwnsAt G w s.fr tm (μ ++ [s.lam]) q b := by
  intro q b h
  cases q with
  | fr t => exact h
  | ob lev i k =>
   rcases hat lev i with e | e
   ·simp only [OwnsAt] at h ⊢
    rw [e] at h
    exact h
   ·simp only [OwnsAt, e] at h
 have hbel : ∀ lev, lev < L → ((G.cut L).push L m).below lev = G.below lev := by
  intro lev h
  simp only [Gh.below, Gh.push, Gh.cut, Gh.mk.injEq, true_and, and_true]
  funext l
  by_cases hl : l ≤ lev
  ·simp only [hl, if_true]
   rw [if_neg (by omega), if_pos (by omega)]
  ·simp only [hl, if_false]
 refine ⟨⟨R.lev, fun t => ?_, fun i => ?_, fun lev i h => ?_, fun lev i lev' i' h h' e => R.inj lev i lev' i' (hlive _ _ h) (hlive _ _ h') e,
  fun q q' b h h' => R.own q q' b (hown q b h) (hown q' b h'), fun q b lev i h h' => R.apart q b lev i (hown q b h) (hlive _ _ h'), fun lev h => ?_, ?_, fun lev h => ?_⟩, fun b hb => ?_⟩
 ·show LVR _ w L (s.lam.take m).length _ _
  rw [hlen]
  exact LVR_under R.ngt _ _ (hf t) (R.fr t)
 ·show ObR _ w L (s.lam.take m).length _ _ (lamOb (s.lam.take m) i)
  rw [hlen, hlam]
  split
  ·rename_i hi
   refine ObR_under R.ngt (underObs_get (j := i) hl ?_) (R.lam i)
   rw [List.getElem?_take_of_lt hi, lamOb, List.getElem?_eq_getElem (by omega)]
  ·trivial
 ·rw [hbel lev h]; exact R.mu lev i h
 ·simp only [Gh.push, Gh.cut]; rw [if_neg (by omega), if_pos h]; exact R.nlt lev h
 ·show ((G.cut L).push L m).n L = if s.pushed then (s.lam.take m).length else 0
  rw [hp, hlen]; simp [Gh.push]
 ·simp only [Gh.push, Gh.cut]; rw [if_neg (by omega), if_neg (by omega)]
 ·rcases hb with ⟨q, hb⟩ | ⟨lev, i, hb, e⟩
  ·exact .inl ⟨q, hown q b hb⟩
  ·exact .inr ⟨lev, i, hlive lev i hb, e⟩
theorem slotsOf_fr {fr : Fr} {m : Nat} : ∀ {live : List (Nat × Nat)}, underL L m (valsOf (slotsOf fr live)) = true → ∀ t, (mkFr (slotsOf fr live) t = .cv .undef ∨ mkFr (slotsOf fr live) t = fr t) ∧ underV L m (mkFr (slotsOf fr live) t) = true
 | [], hb, t => ⟨.inl rfl, rfl⟩
 | q :: r, hb, t => by
  simp only [slotsOf, valsOf, underL] at hb
  obtain ⟨hb1, hb2⟩ := two_true hb
  simp only [slotsOf, mkFr]
  split
  ·rename_i e
   have := Nat.eq_of_beq_eq_true e
   subst this
   exact ⟨.inr rfl, hb1⟩
  ·exact slotsOf_fr hb2 t
theorem truncK_sound {α : Type} {live : List (Nat × Nat)} {k : S → Option α} {r : α} (h : truncK L live s k = some r) (R : Rel G L s μ tm w) {T : Nat → Prop} {G0 : Gh} {w0 : World} (E : Ext L T G0 w0 G w (TouchS G w s μ tm)) (h0 : G0.n L = 0) :
  ∃ s' G', k s' = some r ∧ Rel G' L s' μ tm w ∧ Ext L T G0 w0 G' w (TouchS G' w s' μ tm) := by
 unfold truncK at h
 split at h
 ·exact ⟨s, G, h, R, E⟩
 ·rename_i m hm
  obtain ⟨hc, h⟩ := guardB_some.1 h
  simp only [Bool.and_eq_true] at hc
  obtain ⟨⟨⟨hp, hlen⟩, hu⟩, ho⟩ := hc
  have hsl := slotsOf_fr (fr := s.fr) hu
  obtain ⟨R1, hO⟩ := R.refr (fr' := mkFr (slotsOf s.fr live)) fun t => by
   rcases (hsl t).1 with e | e
   ·rw [e]; exact ⟨by simp [LVR, VR], fun b hb => by simp [Owns] at hb⟩
   ·rw [e]; exact ⟨R.fr t, fun _ hb => hb⟩
  obtain ⟨R2, hT⟩ := R1.trunc hp (Nat.le_of_ble_eq_true hlen) (fun t => (hsl t).2) ho
  have e : ({ fr := mkFr (slotsOf s.fr live), lam := s.lam.take m, pushed := true } : S) = { s with fr := mkFr (slotsOf s.fr live), lam := s.lam.take m } := by
   cases s; simp only at hp; subst hp; rfl
  rw [e] at h
  refine ⟨_, _, h, R2, ⟨⟨E.le.map, fun lev i hi => ?_, E.le.imm, E.le.blk⟩, E.os, E.tape, E.output, E.size, E.keep, fun b hb => E.grow b ?_, fun l hl => ⟨(E.lev l hl).1, ?_⟩⟩⟩
  ·obtain ⟨h1, h2, h3⟩ := E.le.ref lev i hi
   refine ⟨?_, h2, h3⟩
   rcases Nat.lt_trichotomy lev L with hl | hl | hl
   ·simp only [Gh.push, Gh.cut]; rw [if_neg (by omega), if_pos hl]; exact h1
   ·subst hl; omega
   ·have := R.ngt lev hl; omega
  ·have := hT b hb
   rcases this with ⟨q, hb⟩ | hb
   ·exact .inl ⟨q, hO q b hb⟩
   ·exact .inr hb
  ·simp only [Gh.push, Gh.cut]; rw [if_neg (by omega), if_pos hl]; exact (E.lev l hl).2
end
end Go.Abs
