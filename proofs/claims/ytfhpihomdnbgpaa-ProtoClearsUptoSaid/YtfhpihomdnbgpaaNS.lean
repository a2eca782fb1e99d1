import Derived.Test.YtfhpihomdnbgpaaNW
namespace Go.Proofs
open Go.GX
set_option linter.unusedVariables false
set_option linter.unusedSimpArgs false
theorem E71_eq {x : Int} (hx : InR x) : E71 (x, ()) = some ((len x.toNat : Nat) : Int) := by
 obtain ⟨L, h1, h2, h3⟩ := len_some x hx
 have := BL_uniq h3 (BL_len _)
 subst this
 exact h1
theorem F71_eq {x : Int} (hx : InR x) : F71 (x, ()) = ((len x.toNat : Nat) : Int) ∧ G71 (x, ()) = true := ofE (E71_eq hx)
theorem F54_eq (a b : Int) : F54 (a, b, ()) = (iandn .u64 a b, b, ()) ∧ G54 (a, b, ()) = true := ⟨rfl, rfl⟩
theorem E69_eq (lo hi : Int) : E69 (lo, hi, ()) = some (ofF lo hi) := by
 show S69 F54 G54 F71 G71 lo hi = _
 have hx : InR (ixor .u64 lo hi) := inR_ixor _ _
 have ht : (ixor .u64 lo hi).toNat = u lo ^^^ u hi := by rw [ixor_n]; rfl
 unfold S69
 rw [(F71_eq hx).1, (F71_eq hx).2, ht, one_shl (len_le (xor_lt lo hi)), (F54_eq _ _).1, (F54_eq _ _).2]
 refine (bif_t ?_).trans rfl
 simp only [tt_eq, Bool.and_eq_true, decide_eq_true_eq, true_and, and_true]
 omega
theorem F69_eq (lo hi : Int) : F69 (lo, hi, ()) = ofF lo hi ∧ G69 (lo, hi, ()) = true := ofE (E69_eq lo hi)
theorem E68_eq (a b : Tn) : E68 (a, b, ()) = some (metR a b) := by
 show S68 F54 G54 a b = _
 unfold S68 metR
 rw [(F54_eq _ _).1, (F54_eq _ _).2]
 cases h : metB a b
 ·rw [if_neg (by simp)]; exact bif_t (by unfold metB at h; rw [h]; rfl)
 ·rw [if_pos rfl]; exact bif_f (by unfold metB at h; rw [h]; rfl)
theorem F68_eq (a b : Tn) : F68 (a, b, ()) = metR a b ∧ G68 (a, b, ()) = true := ofE (E68_eq a b)
theorem V55_in {i : Nat} (hi : i < 3) {s s' w : Sc} (h : rnd s = some s') : V55_0 ((), (), true, (i : Int), s, w, ()) = some (.inl ((), (), true, ((i + 1 : Nat) : Int), s', w, ())) := by
 unfold V55_0 R55_0
 change (bif decide ((i : Int) < 3) then (bif true then (bif decide (mnF s ≤ mxF s) then (bif tt 1 (G68 (s.1, F69 (mnF s, mxF s, ()), ()) && tt 1 (G69 (mnF s, mxF s, ()))) then some (Sum.inl ((), (), (F68 (s.1, F69 (mnF s, mxF s, ()), ())).2.1, IntKind.wrap .i64 ((i : Int) + 1), ((F68 (s.1, F69 (mnF s, mxF s, ()), ())).1, mnF s, mxF s, _), w, ())) else none) else _) else _) else _) = _
 rw [(F69_eq (mnF s) (mxF s)).1, (F69_eq (mnF s) (mxF s)).2, (F68_eq s.1 (ofF (mnF s) (mxF s))).1, (F68_eq s.1 (ofF (mnF s) (mxF s))).2]
 unfold rnd at h
 split at h
 ·rename_i h1
  split at h
  ·rename_i h2
   cases h
   unfold metR
   rw [if_pos h2]
   refine (bif_t (decide_eq_true (by omega))).trans ((bif_t rfl).trans ((bif_t (decide_eq_true h1)).trans ((bif_t rfl).trans ?_)))
   rw [wi64 (by omega)]
   rfl
  ·cases h
 ·cases h
theorem V55_out {i : Nat} (hi : i < 3) {s w : Sc} (h : rnd s = none) : ∃ t, V55_0 ((), (), true, (i : Int), s, w, ()) = some (.inl ((), (), false, ((i + 1 : Nat) : Int), t, w, ())) := by
 unfold V55_0 R55_0
 change ∃ t, (bif decide ((i : Int) < 3) then (bif true then (bif decide (mnF s ≤ mxF s) then (bif tt 1 (G68 (s.1, F69 (mnF s, mxF s, ()), ()) && tt 1 (G69 (mnF s, mxF s, ()))) then some (Sum.inl ((), (), (F68 (s.1, F69 (mnF s, mxF s, ()), ())).2.1, IntKind.wrap .i64 ((i : Int) + 1), ((F68 (s.1, F69 (mnF s, mxF s, ()), ())).1, mnF s, mxF s, _), w, ())) else none) else
  some (Sum.inl ((), (), decide (mnF s ≤ mxF s), IntKind.wrap .i64 ((i : Int) + 1), (s.1, mnF s, mxF s, _), w, ()))) else _) else _) = _
 rw [(F69_eq (mnF s) (mxF s)).1, (F69_eq (mnF s) (mxF s)).2, (F68_eq s.1 (ofF (mnF s) (mxF s))).1, (F68_eq s.1 (ofF (mnF s) (mxF s))).2, wi64 (a := (i : Int) + 1) (by omega)]
 unfold rnd at h
 split at h
 ·rename_i h1
  split at h
  ·cases h
  ·rename_i h2
   unfold metR
   rw [if_neg h2]
   exact ⟨_, (bif_t (decide_eq_true (by omega))).trans ((bif_t rfl).trans ((bif_t (decide_eq_true h1)).trans (bif_t rfl)))⟩
 ·rename_i h1
  exact ⟨_, (bif_t (decide_eq_true (by omega))).trans ((bif_t rfl).trans ((bif_f (decide_eq_false h1)).trans (by rw [decide_eq_false h1]; rfl)))⟩
theorem V55_f {i : Nat} (hi : i < 3) {s w : Sc} : ∃ t, V55_0 ((), (), false, (i : Int), s, w, ()) = some (.inl ((), (), false, ((i + 1 : Nat) : Int), t, w, ())) := by
 unfold V55_0 R55_0
 dsimp only
 rw [wi64 (a := (i : Int) + 1) (by omega)]
 exact ⟨_, (bif_t (decide_eq_true (by omega))).trans (bif_f rfl)⟩
theorem V55_end {b : Bool} {s w : Sc} : V55_0 ((), (), b, 3, s, w, ()) = some (.inr ((), (), b, s, w, ())) := rfl
theorem W55_f (w : Sc) : ∀ (n i : Nat) (s : Sc), i + n = 3 → ∃ t, wh V55_0 ((), (), false, (i : Int), s, w, ()) = some ((), (), false, t, w, ()) := by
 intro n
 induction n with
 | zero =>
  intro i s hi
  have : i = 3 := by omega
  subst this; exact ⟨s, wh_stop V55_end⟩
 | succ n ih =>
  intro i s hi
  obtain ⟨t, ht⟩ := V55_f (i := i) (by omega) (s := s) (w := w)
  obtain ⟨t', ht'⟩ := ih (i + 1) t (by omega)
  exact ⟨t', by rw [wh_next ht, ht']⟩
theorem W55_run (w : Sc) : ∀ (n i : Nat) (s : Sc), i + n = 3 → (∀ t, rnds n s = some t → wh V55_0 ((), (), true, (i : Int), s, w, ()) = some ((), (), true, t, w, ())) ∧ (rnds n s = none → ∃ t, wh V55_0 ((), (), true, (i : Int), s, w, ()) = some ((), (), false, t, w, ())) := by
 intro n
 induction n with
 | zero =>
  intro i s hi
  have : i = 3 := by omega
  subst this
  exact ⟨fun t ht => by cases ht; exact wh_stop V55_end, fun h => by cases h⟩
 | succ n ih =>
  intro i s hi
  cases h : rnd s with
  | none =>
   refine ⟨fun t ht => by simp [rnds, h] at ht, fun _ => ?_⟩
   obtain ⟨t, ht⟩ := V55_out (i := i) (by omega) h (w := w)
   obtain ⟨t', ht'⟩ := W55_f w n (i + 1) t (by omega)
   exact ⟨t', by rw [wh_next ht, ht']⟩
  | some s' =>
   have h1 := V55_in (i := i) (by omega) h (w := w)
   have := ih (i + 1) s' (by omega)
   rw [wh_next h1]
   simpa [rnds, h] using this
theorem E55_eq (s : Sc) : E55 (s, ()) = some (tgtR (tgt s)) := by
 show S55 _ _ _ _ W55_0 Q55_0 s = _
 unfold S55
 change (bif !(W55_0 ((), (), may s, 0, s, z2, ())).2.2.1 then (bif tt 1 (Q55_0 ((), (), may s, 0, s, z2, ())) then some (z2, false, ()) else none) else (bif tt 1 (Q55_0 ((), (), may s, 0, s, z2, ())) then some ((W55_0 ((), (), may s, 0, s, z2, ())).2.2.2.1, true, ()) else none)) = _
 unfold tgt
 cases hm : may s
 ·rw [if_neg (by simp)]
  obtain ⟨t, ht⟩ := W55_f z2 3 0 s rfl
  have e1 : W55_0 ((), (), false, 0, s, z2, ()) = _ := whV_of (hd := hd55_0) (ys := ys55_0) ht
  have e2 : Q55_0 ((), (), false, 0, s, z2, ()) = true := whK_of (hd := hd55_0) (ys := ys55_0) ht
  rw [e1, e2]; rfl
 ·rw [if_pos rfl]
  have hw := W55_run z2 3 0 s rfl
  cases h : rnds 3 s with
  | none =>
   obtain ⟨t, ht⟩ := hw.2 h
   have e1 : W55_0 ((), (), true, 0, s, z2, ()) = _ := whV_of (hd := hd55_0) (ys := ys55_0) ht
   have e2 : Q55_0 ((), (), true, 0, s, z2, ()) = true := whK_of (hd := hd55_0) (ys := ys55_0) ht
   rw [e1, e2]; rfl
  | some t =>
   have ht := hw.1 t h
   have e1 : W55_0 ((), (), true, 0, s, z2, ()) = _ := whV_of (hd := hd55_0) (ys := ys55_0) ht
   have e2 : Q55_0 ((), (), true, 0, s, z2, ()) = true := whK_of (hd := hd55_0) (ys := ys55_0) ht
   rw [e1, e2]; rfl
theorem F55_eq (s : Sc) : F55 (s, ()) = tgtR (tgt s) ∧ G55 (s, ()) = true := ofE (E55_eq s)
theorem E42_eq (t : Tn) (w : Int) : E42 (t, w, ()) = some (castT t w) := by
 show S42 t w = _
 unfold S42 castT
 by_cases h8 : w = 8
 ·subst h8; rfl
 ·by_cases h16 : w = 16
  ·subst h16; rfl
  ·by_cases h32 : w = 32
   ·subst h32; rfl
   ·rw [if_neg (show ¬ isW w by unfold isW; omega)]
    exact (bif_f (decide_eq_false h8)).trans ((bif_f (decide_eq_false h16)).trans (bif_f (decide_eq_false h32)))
theorem F42_eq (t : Tn) (w : Int) : F42 (t, w, ()) = castT t w ∧ G42 (t, w, ()) = true := ofE (E42_eq t w)
theorem E41_eq (t : Tn) (a b : Int) : E41 (t, a, b, ()) = some (tg (t, a, b, ())) := by
 show S41 F55 G55 t a b = _
 unfold S41 tg
 rw [(F55_eq _).1, (F55_eq _).2]; rfl
theorem F41_eq (t : Tn) (a b : Int) : F41 (t, a, b, ()) = tg (t, a, b, ()) ∧ G41 (t, a, b, ()) = true := ofE (E41_eq t a b)
theorem E21_eq (s : Sc) (w : Int) : E21 (s, w, ()) = some (castS s w) := by
 show S21 F41 G41 F42 G42 s w = _
 unfold S21 castS
 simp only [(F41_eq _ _ _).1, (F41_eq _ _ _).2, (F42_eq _ _).1, (F42_eq _ _).2]
 by_cases h8 : w = 8
 ·subst h8
  refine (bif_t rfl).trans ?_
  change (bif decide (s.2.2.1 > mst 8) then some (tg (castT s.1 8, 0, mst 8, ())) else some (tg (castT s.1 8, s.2.1, s.2.2.1, ()))) = _
  rw [if_pos (show isW 8 from .inl rfl), Bool.cond_decide]; split <;> rfl
 ·by_cases h16 : w = 16
  ·subst h16
   refine (bif_f rfl).trans ((bif_t rfl).trans ?_)
   change (bif decide (s.2.2.1 > mst 16) then some (tg (castT s.1 16, 0, mst 16, ())) else some (tg (castT s.1 16, s.2.1, s.2.2.1, ()))) = _
   rw [if_pos (show isW 16 from .inr (.inl rfl)), Bool.cond_decide]; split <;> rfl
  ·by_cases h32 : w = 32
   ·subst h32
    refine (bif_f rfl).trans ((bif_f rfl).trans ((bif_t rfl).trans ?_))
    change (bif decide (s.2.2.1 > mst 32) then some (tg (castT s.1 32, 0, mst 32, ())) else some (tg (castT s.1 32, s.2.1, s.2.2.1, ()))) = _
    rw [if_pos (show isW 32 from .inr (.inr rfl)), Bool.cond_decide]; split <;> rfl
   ·rw [if_neg (show ¬ isW w by unfold isW; omega)]
    exact (bif_f (decide_eq_false h8)).trans ((bif_f (decide_eq_false h16)).trans (bif_f (decide_eq_false h32)))
theorem F21_eq (s : Sc) (w : Int) : F21 (s, w, ()) = castS s w ∧ G21 (s, w, ()) = true := ofE (E21_eq s w)
end Go.Proofs
