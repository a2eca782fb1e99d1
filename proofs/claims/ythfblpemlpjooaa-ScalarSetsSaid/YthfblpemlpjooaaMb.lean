import Derived.Test.YthfblpemlpjooaaMa
namespace Go.Proofs
open Go.GX
set_option linter.unusedVariables false
set_option linter.unusedSimpArgs false
def max2 (a b : Int) : Int := if a > b then a else b
def min2 (a b : Int) : Int := if a < b then a else b
/-! ## Bounds and bits that know of one another -/
def mnF (s : Sc) : Int := if s.1.1 > s.2.1 then s.1.1 else s.2.1
def mxF (s : Sc) : Int := if ior .u64 s.1.1 s.1.2.1 < s.2.2.1 then ior .u64 s.1.1 s.1.2.1 else s.2.2.1
def rnd (s : Sc) : Option Sc := if mnF s ≤ mxF s then (if metB s.1 (ofF (mnF s) (mxF s)) = true then some (metF s.1 (ofF (mnF s) (mxF s)), mnF s, mxF s, ()) else none) else none
def rnds : Nat → Sc → Option Sc
  | 0, s => some s
  | n + 1, s => (rnd s).bind (rnds n)
def may (s : Sc) : Bool := decide (iand .u64 s.1.1 s.1.2.1 = 0)
def tgt (s : Sc) : Option Sc := if may s = true then rnds 3 s else none
def z2 : Sc := ((0, 0, ()), 0, 0, ())
def tgtR : Option Sc → Sc × Bool × Unit
  | some t => (t, true, ())
  | none => (((0, 0, ()), 0, 0, ()), false, ())
/-! ### the reference -/
theorem V14_in {i : Nat} (hi : i < 3) {s s' w : Sc} (h : rnd s = some s') : V14_0 ((), (), (i : Int), s, w, ()) = some (.inl ((), (), ((i + 1 : Nat) : Int), s', w, ())) := by
  unfold V14_0 R14_0
  change (bif decide ((i : Int) < 3) then (bif decide (mnF s > mxF s) then _ else (bif !(F34 (s.1, F35 (mnF s, mxF s, ()), ())).2.1 then _ else (bif tt 2 (G34 (s.1, F35 (mnF s, mxF s, ()), ()) && tt 1 (G35 (mnF s, mxF s, ()))) then some (Sum.inl ((), (), IntKind.wrap .i64 ((i : Int) + 1), ((F34 (s.1, F35 (mnF s, mxF s, ()), ())).1, mnF s, mxF s, _), w, ())) else none))) else _) = _
  unfold rnd at h
  split at h
  · rename_i h1
    split at h
    · rename_i h2
      cases h
      rw [(F35_eq (mnF s) (mxF s)).1, (F35_eq (mnF s) (mxF s)).2, (F34_eq s.1 (ofF (mnF s) (mxF s))).1, (F34_eq s.1 (ofF (mnF s) (mxF s))).2]
      unfold metR
      rw [if_pos h2]
      refine (bif_t (decide_eq_true (by omega))).trans ((bif_f (decide_eq_false (by omega))).trans ((bif_f rfl).trans ((bif_t rfl).trans ?_)))
      rw [wi64 (by omega)]
      rfl
    · cases h
  · cases h
theorem V14_out {i : Nat} (hi : i < 3) {s w : Sc} (h : rnd s = none) : V14_0 ((), (), (i : Int), s, w, ()) = some (.inr (.inr ((), false, z2, ()))) := by
  unfold V14_0 R14_0
  change (bif decide ((i : Int) < 3) then (bif decide (mnF s > mxF s) then some (Sum.inr (Sum.inr ((), false, z2, ()))) else (bif !(F34 (s.1, F35 (mnF s, mxF s, ()), ())).2.1 then (bif tt 2 (G34 (s.1, F35 (mnF s, mxF s, ()), ()) && tt 1 (G35 (mnF s, mxF s, ()))) then some (Sum.inr (Sum.inr ((), false, z2, ()))) else none) else _)) else _) = _
  refine (bif_t (decide_eq_true (by omega))).trans ?_
  unfold rnd at h
  split at h
  · rename_i h1
    split at h
    · cases h
    · rename_i h2
      rw [(F35_eq (mnF s) (mxF s)).1, (F35_eq (mnF s) (mxF s)).2, (F34_eq s.1 (ofF (mnF s) (mxF s))).1, (F34_eq s.1 (ofF (mnF s) (mxF s))).2]
      unfold metR
      rw [if_neg h2]
      exact (bif_f (decide_eq_false (by omega))).trans ((bif_t rfl).trans (bif_t rfl))
  · exact bif_t (decide_eq_true (by omega))
theorem V14_end {s w : Sc} : V14_0 ((), (), 3, s, w, ()) = some (.inr (.inl ((), (), s, w, ()))) := rfl
theorem W14_run (s w : Sc) : ∀ (n i : Nat), i + n = 3 → wh V14_0 ((), (), (i : Int), s, w, ()) = some (match rnds n s with | some t => .inl ((), (), t, w, ()) | none => .inr ((), false, z2, ())) := by
  intro n
  induction n generalizing s with
  | zero =>
    intro i hi
    have : i = 3 := by omega
    subst this; exact wh_stop V14_end
  | succ n ih =>
    intro i hi
    cases h : rnd s with
    | none => rw [wh_stop (V14_out (by omega) h)]; simp [rnds, h]
    | some s' => rw [wh_next (V14_in (by omega) h), ih s' (i + 1) (by omega)]; simp [rnds, h]
theorem F33_eq (t : Tn) : F33 (t, ()) = decide (iand .u64 t.1 t.2.1 = 0) ∧ G33 (t, ()) = true := ⟨rfl, rfl⟩
theorem E14_eq (s : Sc) : E14 (s, ()) = some (tgtR (tgt s)) := by
  show S14 F33 G33 F34 G34 F35 G35 W14_0 Q14_0 s = _
  unfold S14
  rw [(F33_eq _).1, (F33_eq _).2]
  unfold tgt
  cases hm : may s
  · rw [if_neg (by simp)]
    exact (bif_t (by unfold may at hm; rw [hm]; rfl)).trans rfl
  · rw [if_pos rfl]
    refine (bif_f (by unfold may at hm; rw [hm]; rfl)).trans ?_
    have hw := W14_run s z2 3 0 rfl
    have e2 : Q14_0 ((), (), 0, s, z2, ()) = true := whK_of (hd := hd14_0) (ys := ys14_0) hw
    cases h : rnds 3 s with
    | none =>
      rw [h] at hw
      have e1 : W14_0 ((), (), 0, s, z2, ()) = .inr ((), false, z2, ()) := whV_of (hd := hd14_0) (ys := ys14_0) hw
      unfold z2 at e1 e2
      rw [e1, e2]
      rfl
    | some t =>
      rw [h] at hw
      have e1 : W14_0 ((), (), 0, s, z2, ()) = .inl ((), (), t, z2, ()) := whV_of (hd := hd14_0) (ys := ys14_0) hw
      unfold z2 at e1 e2
      rw [e1, e2]
      rfl
theorem F14_eq (s : Sc) : F14 (s, ()) = tgtR (tgt s) ∧ G14 (s, ()) = true := ofE (E14_eq s)
/-! ### the program's -/
theorem V13_in {i : Nat} (hi : i < 3) {s s' w : Sc} (h : rnd s = some s') : V13_0 ((), (), true, (i : Int), s, w, ()) = some (.inl ((), (), true, ((i + 1 : Nat) : Int), s', w, ())) := by
  unfold V13_0 R13_0
  change (bif decide ((i : Int) < 3) then (bif true then (bif decide (mnF s ≤ mxF s) then (bif tt 2 (G31 (s.1, F32 (mnF s, mxF s, ()), ()) && tt 1 (G32 (mnF s, mxF s, ()))) then some (Sum.inl ((), (), (F31 (s.1, F32 (mnF s, mxF s, ()), ())).2.1, IntKind.wrap .i64 ((i : Int) + 1), ((F31 (s.1, F32 (mnF s, mxF s, ()), ())).1, mnF s, mxF s, _), w, ())) else none) else _) else _) else _) = _
  rw [(F32_eq (mnF s) (mxF s)).1, (F32_eq (mnF s) (mxF s)).2, (F31_eq s.1 (ofF (mnF s) (mxF s))).1, (F31_eq s.1 (ofF (mnF s) (mxF s))).2]
  unfold rnd at h
  split at h
  · rename_i h1
    split at h
    · rename_i h2
      cases h
      unfold metR
      rw [if_pos h2]
      refine (bif_t (decide_eq_true (by omega))).trans ((bif_t rfl).trans ((bif_t (decide_eq_true h1)).trans ((bif_t rfl).trans ?_)))
      rw [wi64 (by omega)]
      rfl
    · cases h
  · cases h
theorem V13_out {i : Nat} (hi : i < 3) {s w : Sc} (h : rnd s = none) : ∃ t, V13_0 ((), (), true, (i : Int), s, w, ()) = some (.inl ((), (), false, ((i + 1 : Nat) : Int), t, w, ())) := by
  unfold V13_0 R13_0
  change ∃ t, (bif decide ((i : Int) < 3) then (bif true then (bif decide (mnF s ≤ mxF s) then (bif tt 2 (G31 (s.1, F32 (mnF s, mxF s, ()), ()) && tt 1 (G32 (mnF s, mxF s, ()))) then some (Sum.inl ((), (), (F31 (s.1, F32 (mnF s, mxF s, ()), ())).2.1, IntKind.wrap .i64 ((i : Int) + 1), ((F31 (s.1, F32 (mnF s, mxF s, ()), ())).1, mnF s, mxF s, _), w, ())) else none) else
    some (Sum.inl ((), (), decide (mnF s ≤ mxF s), IntKind.wrap .i64 ((i : Int) + 1), (s.1, mnF s, mxF s, _), w, ()))) else _) else _) = _
  rw [(F32_eq (mnF s) (mxF s)).1, (F32_eq (mnF s) (mxF s)).2, (F31_eq s.1 (ofF (mnF s) (mxF s))).1, (F31_eq s.1 (ofF (mnF s) (mxF s))).2, wi64 (a := (i : Int) + 1) (by omega)]
  unfold rnd at h
  split at h
  · rename_i h1
    split at h
    · cases h
    · rename_i h2
      unfold metR
      rw [if_neg h2]
      exact ⟨_, (bif_t (decide_eq_true (by omega))).trans ((bif_t rfl).trans ((bif_t (decide_eq_true h1)).trans (bif_t rfl)))⟩
  · rename_i h1
    exact ⟨_, (bif_t (decide_eq_true (by omega))).trans ((bif_t rfl).trans ((bif_f (decide_eq_false h1)).trans (by rw [decide_eq_false h1]; rfl)))⟩
theorem V13_f {i : Nat} (hi : i < 3) {s w : Sc} : ∃ t, V13_0 ((), (), false, (i : Int), s, w, ()) = some (.inl ((), (), false, ((i + 1 : Nat) : Int), t, w, ())) := by
  unfold V13_0 R13_0
  dsimp only
  rw [wi64 (a := (i : Int) + 1) (by omega)]
  exact ⟨_, (bif_t (decide_eq_true (by omega))).trans (bif_f rfl)⟩
theorem V13_end {b : Bool} {s w : Sc} : V13_0 ((), (), b, 3, s, w, ()) = some (.inr ((), (), b, s, w, ())) := rfl
theorem W13_f (w : Sc) : ∀ (n i : Nat) (s : Sc), i + n = 3 → ∃ t, wh V13_0 ((), (), false, (i : Int), s, w, ()) = some ((), (), false, t, w, ()) := by
  intro n
  induction n with
  | zero =>
    intro i s hi
    have : i = 3 := by omega
    subst this; exact ⟨s, wh_stop V13_end⟩
  | succ n ih =>
    intro i s hi
    obtain ⟨t, ht⟩ := V13_f (i := i) (by omega) (s := s) (w := w)
    obtain ⟨t', ht'⟩ := ih (i + 1) t (by omega)
    exact ⟨t', by rw [wh_next ht, ht']⟩
theorem W13_run (w : Sc) : ∀ (n i : Nat) (s : Sc), i + n = 3 → (∀ t, rnds n s = some t → wh V13_0 ((), (), true, (i : Int), s, w, ()) = some ((), (), true, t, w, ())) ∧ (rnds n s = none → ∃ t, wh V13_0 ((), (), true, (i : Int), s, w, ()) = some ((), (), false, t, w, ())) := by
  intro n
  induction n with
  | zero =>
    intro i s hi
    have : i = 3 := by omega
    subst this
    exact ⟨fun t ht => by cases ht; exact wh_stop V13_end, fun h => by cases h⟩
  | succ n ih =>
    intro i s hi
    cases h : rnd s with
    | none =>
      refine ⟨fun t ht => by simp [rnds, h] at ht, fun _ => ?_⟩
      obtain ⟨t, ht⟩ := V13_out (i := i) (by omega) h (w := w)
      obtain ⟨t', ht'⟩ := W13_f w n (i + 1) t (by omega)
      exact ⟨t', by rw [wh_next ht, ht']⟩
    | some s' =>
      have h1 := V13_in (i := i) (by omega) h (w := w)
      have := ih (i + 1) s' (by omega)
      rw [wh_next h1]
      simpa [rnds, h] using this
theorem E13_eq (s : Sc) : E13 (s, ()) = some (tgtR (tgt s)) := by
  show S13 _ _ _ _ W13_0 Q13_0 s = _
  unfold S13
  change (bif !(W13_0 ((), (), may s, 0, s, z2, ())).2.2.1 then (bif tt 1 (Q13_0 ((), (), may s, 0, s, z2, ())) then some (z2, false, ()) else none) else (bif tt 1 (Q13_0 ((), (), may s, 0, s, z2, ())) then some ((W13_0 ((), (), may s, 0, s, z2, ())).2.2.2.1, true, ()) else none)) = _
  unfold tgt
  cases hm : may s
  · rw [if_neg (by simp)]
    obtain ⟨t, ht⟩ := W13_f z2 3 0 s rfl
    have e1 : W13_0 ((), (), false, 0, s, z2, ()) = _ := whV_of (hd := hd13_0) (ys := ys13_0) ht
    have e2 : Q13_0 ((), (), false, 0, s, z2, ()) = true := whK_of (hd := hd13_0) (ys := ys13_0) ht
    rw [e1, e2]; rfl
  · rw [if_pos rfl]
    have hw := W13_run z2 3 0 s rfl
    cases h : rnds 3 s with
    | none =>
      obtain ⟨t, ht⟩ := hw.2 h
      have e1 : W13_0 ((), (), true, 0, s, z2, ()) = _ := whV_of (hd := hd13_0) (ys := ys13_0) ht
      have e2 : Q13_0 ((), (), true, 0, s, z2, ()) = true := whK_of (hd := hd13_0) (ys := ys13_0) ht
      rw [e1, e2]; rfl
    | some t =>
      have ht := hw.1 t h
      have e1 : W13_0 ((), (), true, 0, s, z2, ()) = _ := whV_of (hd := hd13_0) (ys := ys13_0) ht
      have e2 : Q13_0 ((), (), true, 0, s, z2, ()) = true := whK_of (hd := hd13_0) (ys := ys13_0) ht
      rw [e1, e2]; rfl
theorem F13_eq (s : Sc) : F13 (s, ()) = tgtR (tgt s) ∧ G13 (s, ()) = true := ofE (E13_eq s)
end Go.Proofs
