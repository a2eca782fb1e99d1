import Derived.Test.YtkhblganljemeaaNC
namespace Go.Proofs
open Go.GX
set_option linter.unusedVariables false
set_option linter.unusedSimpArgs false
/-! ## What is written -/
def kn (x : Sl) : Int := bif decide (x.1 = 2) then (bif decide (x.2.2.1.1 = 1) then 255 else 0) else bif decide (x.1 = 1) then x.2.1 else 0
def putB (l : List Sl) (j : Nat) : List Sl := lset dS l (j / 8) (1, (ior .i64 (kn (l.getD (j / 8) dS)) (ishl .i64 1 ((j % 8 : Nat) : Int)), (dR, ())))
def putN (l : List Sl) : Nat → Nat → List Sl
  | _, 0 => l
  | o, n + 1 => putB (putN l o n) (o + n)
abbrev d0 : KD6 := ([], ([], (0, ([], (0, ())))))
theorem lset_lset {α : Type} (d : α) : ∀ (l : List α) (i : Nat) (a b : α), lset d (lset d l i a) i b = lset d l i b
  | [], 0, a, b => rfl
  | [], i + 1, a, b => by simp only [lset]; rw [lset_lset d [] i a b]
  | x :: xs, 0, a, b => rfl
  | x :: xs, i + 1, a, b => by simp only [lset]; rw [lset_lset d xs i a b]
theorem lset_get {α : Type} (d : α) (l : List α) (i : Nat) (v : α) : (lset d l i v).getD i d = v := by rw [lset_getD, if_pos rfl]
abbrev S1 (s : KD6) (l : List Sl) : KD6 := (s.1, (l, s.2.2))
abbrev A11 (p n i : Nat) (s : KD6) : XD hd11_0 := ((p : Int), (n : Int), (), (), (), ((p + i : Nat) : Int), S1 s (putN s.2.1 p i), d0, 0, ())
theorem V11_run {p n : Nat} {s : KD6} (h : p + n ≤ 512) : ∀ (k i : Nat), i + k = n → wh V11_0 (A11 p n i s) = some ((), (), (), S1 s (putN s.2.1 p n), d0, 0, ())
  | 0, i, hi => by
    have : i = n := by omega
    subst this
    refine wh_stop ?_
    show R11_0 _ _ _ _ _ _ _ _ _ _ _ (p : Int) (i : Int) () () () ((p + i : Nat) : Int) (S1 s (putN s.2.1 p i)) d0 0 = _
    unfold R11_0
    rw [show IntKind.wrap .i64 ((p : Int) + (i : Int)) = ((p + i : Nat) : Int) by rw [wi64 (by omega)]; omega, decide_eq_false (Int.lt_irrefl _)]
    rfl
  | k + 1, i, hi => by
    refine (wh_next ?_).trans (V11_run h k (i + 1) (by omega))
    show R11_0 _ _ _ _ _ _ _ _ _ _ _ (p : Int) (n : Int) () () () ((p + i : Nat) : Int) (S1 s (putN s.2.1 p i)) d0 0 = some (.inl ((p : Int), (n : Int), (), (), (), ((p + (i + 1) : Nat) : Int), S1 s (putB (putN s.2.1 p i) (p + i)), d0, 0, ()))
    unfold R11_0
    rw [show IntKind.wrap .i64 ((p : Int) + (n : Int)) = ((p + n : Nat) : Int) by rw [wi64 (by omega)]; omega, show IntKind.wrap .i64 (((p + i : Nat) : Int) + 1) = ((p + (i + 1) : Nat) : Int) by rw [wi64 (by omega)]; omega,
      div8 (show p + i ≤ 1024 by omega), low8, Int.toNat_natCast, decide_eq_true (show ((p + i : Nat) : Int) < ((p + n : Nat) : Int) by omega), decide_eq_true (show (p + i) / 8 < 64 by omega), decide_eq_true (show (0 : Int) ≤ (((p + i) / 8 : Nat) : Int) by omega), decide_eq_true (show (((p + i) / 8 : Nat) : Int) < 64 by omega), decide_eq_true (show (0 : Int) ≤ (((p + i) % 8 : Nat) : Int) by omega)]
    unfold putB
    simp only [lset_lset, lset_get]
    generalize putN s.2.1 p i = l
    generalize hx : l.getD ((p + i) / 8) dS = x
    unfold kn
    by_cases h2 : x.1 = 2
    · rw [decide_eq_true h2, decide_eq_false (show ¬ x.1 = 1 by omega)]
      cases decide (x.2.2.1.1 = 1) <;> rfl
    · rw [decide_eq_false h2]
      cases decide (x.1 = 1) <;> rfl
abbrev A12 (p n i : Nat) (s : KD6) : XD hd12_0 := ((p : Int), (n : Int), (), (), ((p + i : Nat) : Int), S1 s (putN s.2.1 p i), d0, ())
theorem V12_run {p n : Nat} {s : KD6} (h : p + n ≤ 512) : ∀ (k i : Nat), i + k = n → wh V12_0 (A12 p n i s) = some ((), (), S1 s (putN s.2.1 p n), d0, ())
  | 0, i, hi => by
    have : i = n := by omega
    subst this
    refine wh_stop ?_
    show R12_0 _ _ _ _ _ _ (p : Int) (i : Int) () () ((p + i : Nat) : Int) (S1 s (putN s.2.1 p i)) d0 = _
    unfold R12_0
    rw [show IntKind.wrap .i64 ((p : Int) + (i : Int)) = ((p + i : Nat) : Int) by rw [wi64 (by omega)]; omega, decide_eq_false (Int.lt_irrefl _)]
    rfl
  | k + 1, i, hi => by
    refine (wh_next ?_).trans (V12_run h k (i + 1) (by omega))
    show R12_0 _ _ _ _ _ _ (p : Int) (n : Int) () () ((p + i : Nat) : Int) (S1 s (putN s.2.1 p i)) d0 = some (.inl ((p : Int), (n : Int), (), (), ((p + (i + 1) : Nat) : Int), S1 s (putB (putN s.2.1 p i) (p + i)), d0, ()))
    unfold R12_0
    rw [show IntKind.wrap .i64 ((p : Int) + (n : Int)) = ((p + n : Nat) : Int) by rw [wi64 (by omega)]; omega, show IntKind.wrap .i64 (((p + i : Nat) : Int) + 1) = ((p + (i + 1) : Nat) : Int) by rw [wi64 (by omega)]; omega,
      div8 (show p + i ≤ 1024 by omega), wmod8, Int.toNat_natCast, decide_eq_true (show ((p + i : Nat) : Int) < ((p + n : Nat) : Int) by omega), decide_eq_true (show (p + i) / 8 < 64 by omega), decide_eq_true (show (0 : Int) ≤ (((p + i) / 8 : Nat) : Int) by omega), decide_eq_true (show (((p + i) / 8 : Nat) : Int) < 64 by omega), decide_eq_true (show (0 : Int) ≤ (((p + i) % 8 : Nat) : Int) by omega)]
    unfold putB
    generalize putN s.2.1 p i = l
    generalize hx : l.getD ((p + i) / 8) dS = x
    unfold kn
    by_cases h2 : x.1 = 2
    · rw [decide_eq_true h2, decide_eq_false (show ¬ x.1 = 1 by omega)]
      cases decide (x.2.2.1.1 = 1) <;> rfl
    · rw [decide_eq_false h2]
      cases decide (x.1 = 1) <;> rfl
/-- what is put: the state, the error -/
def wst (s : KD6) (p k : Nat) (r : Rg) : KD6 × (Int × Unit) :=
  bif decide (r.1 = 0) then (d0, 60, ()) else bif whl p k then (S1 s (lset dS s.2.1 (p / 8) (2, (0, (r, ())))), 0, ()) else bif decide (r.1 = 1) then (S1 s (putN s.2.1 p k), 0, ()) else (d0, 63, ())
theorem F28_e {s : KD6} (hl : s.2.2.2.1.length ≤ 1048576) : F28 (s, ()) = s ∧ G28 (s, ()) = true := by
  refine ofE ?_
  show S28 F46 G46 s = _
  unfold S28
  have h : G46 (s.2.2.2.1, ()) = true := decide_eq_true (show s.2.2.2.1.length * 8 ≤ 140737488355328 by omega)
  rw [h]
  rfl
theorem F29_e {s : KD6} (hl : s.2.2.2.1.length ≤ 1048576) : F29 (s, ()) = s ∧ G29 (s, ()) = true := by
  refine ofE ?_
  show S29 s = _
  unfold S29
  rw [decide_eq_true (show 0 + (0 + s.2.2.2.1.length) ≤ 0 + s.2.2.2.1.length by omega), decide_eq_true (show (0 + s.2.2.2.1.length) * 8 ≤ 140737488355328 by omega), show sec 0 s.2.2.2.1 0 (0 + s.2.2.2.1.length) = s.2.2.2.1 from sec_full (by omega)]
  rfl
theorem E11_bad {s : KD6} {o n : Int} {r : Rg} (h : szd o n = false) : E11 (s, o, n, r, ()) = some (d0, 62, ()) := by
  show S11 F22 G22 F23 G23 F28 G28 V21 K21 Q21_0 W11_0 Q11_0 s o n r = _
  unfold S11
  rw [(F22_e o n).1, (F22_e o n).2, h]
  simp only [Q21_eq]
  rfl
theorem E12_bad {s : KD6} {o n : Int} {r : Rg} (h : szd o n = false) : E12 (s, o, n, r, ()) = some (d0, 62, ()) := by
  show S12 F26 G26 F29 G29 W12_0 Q12_0 s o n r = _
  unfold S12
  rw [(F26_e o n).1, (F26_e o n).2, h]
  rfl
theorem E11_eq {s : KD6} {p k : Nat} {r : Rg} (hl : s.2.2.2.1.length ≤ 1048576) (h : p + k ≤ 512) (hk : k = 1 ∨ k = 2 ∨ k = 4 ∨ k = 8) : E11 (s, (p : Int), (k : Int), r, ()) = some (wst s p k r) := by
  have hrun := V11_run (p := p) (n := k) (s := s) h k 0 (by omega)
  have ew : W11_0 ((p : Int), (k : Int), (), (), (), (p : Int), s, d0, 0, ()) = ((), (), (), S1 s (putN s.2.1 p k), d0, 0, ()) := whV_of hrun
  have eq : Q11_0 ((p : Int), (k : Int), (), (), (), (p : Int), s, d0, 0, ()) = true := whK_of hrun
  show S11 F22 G22 F23 G23 F28 G28 V21 K21 Q21_0 W11_0 Q11_0 s (p : Int) (k : Int) r = _
  unfold S11
  rw [(F22_e _ _).1, (F22_e _ _).2, (F23_e p k).1, (F23_e p k).2, szd_of h hk, (F28_e hl).1, (F28_e hl).2, ew, eq, div8 (by omega), Int.toNat_natCast, decide_eq_true (show p / 8 < 64 by omega), decide_eq_true (show (0 : Int) ≤ ((p / 8 : Nat) : Int) by omega), decide_eq_true (show ((p / 8 : Nat) : Int) < 64 by omega)]
  simp only [Q21_eq, K21_eq]
  unfold wst whl
  cases decide (r.1 = 0)
  · cases decide (k = 8) && decide (p % 8 = 0)
    · cases decide (r.1 = 1) <;> rfl
    · rfl
  · rfl
theorem E12_eq {s : KD6} {p k : Nat} {r : Rg} (hl : s.2.2.2.1.length ≤ 1048576) (h : p + k ≤ 512) (hk : k = 1 ∨ k = 2 ∨ k = 4 ∨ k = 8) : E12 (s, (p : Int), (k : Int), r, ()) = some (wst s p k r) := by
  have hrun := V12_run (p := p) (n := k) (s := s) h k 0 (by omega)
  have ew : W12_0 ((p : Int), (k : Int), (), (), (p : Int), s, d0, ()) = ((), (), S1 s (putN s.2.1 p k), d0, ()) := whV_of hrun
  have eq : Q12_0 ((p : Int), (k : Int), (), (), (p : Int), s, d0, ()) = true := whK_of hrun
  show S12 F26 G26 F29 G29 W12_0 Q12_0 s (p : Int) (k : Int) r = _
  unfold S12
  rw [(F26_e _ _).1, (F26_e _ _).2, szd_of h hk, (F29_e hl).1, (F29_e hl).2, ew, eq, div8 (by omega), mod8, Int.toNat_natCast, decide_eq_true (show p / 8 < 64 by omega), decide_eq_true (show (0 : Int) ≤ ((p / 8 : Nat) : Int) by omega), decide_eq_true (show ((p / 8 : Nat) : Int) < 64 by omega)]
  have e8 : decide ((k : Int) = 8) = decide (k = 8) := by by_cases c : k = 8 <;> simp [c] <;> omega
  have e0 : decide (((p % 8 : Nat) : Int) = 0) = decide (p % 8 = 0) := by by_cases c : p % 8 = 0 <;> simp [c] <;> omega
  rw [e8, e0]
  unfold wst whl
  cases decide (r.1 = 0)
  · cases decide (k = 8)
    · cases decide (r.1 = 1) <;> rfl
    · cases decide (p % 8 = 0)
      · cases decide (r.1 = 1) <;> rfl
      · rfl
  · rfl
theorem wst_len {s : KD6} {p k : Nat} {r : Rg} (hl : s.2.2.2.1.length ≤ 1048576) : (wst s p k r).1.2.2.2.1.length ≤ 1048576 := by
  unfold wst
  cases decide (r.1 = 0)
  · cases whl p k
    · cases decide (r.1 = 1)
      · exact Nat.zero_le _
      · exact hl
    · exact hl
  · exact Nat.zero_le _
theorem F11_F12 {s : KD6} {o n : Int} {r : Rg} (hl : s.2.2.2.1.length ≤ 1048576) : F11 (s, o, n, r, ()) = F12 (s, o, n, r, ()) ∧ G11 (s, o, n, r, ()) = true ∧ G12 (s, o, n, r, ()) = true ∧ (F12 (s, o, n, r, ())).1.2.2.2.1.length ≤ 1048576 := by
  cases hz : szd o n
  · obtain ⟨a1, a2⟩ : F11 (s, o, n, r, ()) = _ ∧ G11 (s, o, n, r, ()) = true := ofE (E11_bad hz)
    obtain ⟨b1, b2⟩ : F12 (s, o, n, r, ()) = _ ∧ G12 (s, o, n, r, ()) = true := ofE (E12_bad hz)
    exact ⟨a1.trans b1.symm, a2, b2, by rw [b1]; exact Nat.zero_le _⟩
  · obtain ⟨p, k, rfl, rfl, h1, h2⟩ := szd_spec hz
    obtain ⟨a1, a2⟩ : F11 (s, (p : Int), (k : Int), r, ()) = _ ∧ G11 (s, (p : Int), (k : Int), r, ()) = true := ofE (E11_eq hl h1 h2)
    obtain ⟨b1, b2⟩ : F12 (s, (p : Int), (k : Int), r, ()) = _ ∧ G12 (s, (p : Int), (k : Int), r, ()) = true := ofE (E12_eq hl h1 h2)
    exact ⟨a1.trans b1.symm, a2, b2, by rw [b1]; exact wst_len hl⟩
end Go.Proofs
