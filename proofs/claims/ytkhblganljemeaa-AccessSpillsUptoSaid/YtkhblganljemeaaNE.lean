import Derived.Test.YtkhblganljemeaaND
namespace Go.Proofs
open Go.GX
set_option linter.unusedVariables false
set_option linter.unusedSimpArgs false
/-! ## What is read at any place, and what is put there -/
theorem F13_self {a : KD6} (hl : a.2.2.2.1.length ≤ 1048576) : F13 (a, a, ()) = true ∧ G13 (a, a, ()) = true := by
  have h := F13_e (a := a) (b := a) hl
  rw [sameV_self] at h
  exact h
theorem E3_eq {s : KD6} {n : List Int} {r : Rg} (hl : s.2.2.2.1.length ≤ 1048576) : E3 (s, n, r, ()) = some true := by
  show S3 F6 G6 F7 G7 F8 G8 F9 G9 F10 G10 F11 G11 F12 G12 F13 G13 s n r = _
  unfold S3
  have f8 : F8 () = true ∧ G8 () = true := ⟨rfl, rfl⟩
  obtain ⟨a1, a2, a3⟩ := F9_F10 s (n.getD 0 0) (n.getD 1 0)
  obtain ⟨b1, b2, b3, b4⟩ := F11_F12 (s := s) (o := n.getD 0 0) (n := n.getD 1 0) (r := r) hl
  obtain ⟨c1, c2⟩ := F13_self b4
  rw [(F6_t s hl).1, G7_t, f8.1, f8.2, a1, a2, a3, b1, b2, b3, c1, c2]
  cases F6 (s, ())
  · rfl
  · cases F7 (r, ())
    · rfl
    · simp only [eq_self, decide_true]
      rfl
theorem accessStacks_pure (x0 : KD6) (w0 : WFv KT17 x0) (s0 : SZ 1048576 KT17 x0) (x1 : List Int) (w1 : WFv (.arr 2 (.int .i64)) x1) (s1 : SZ 1048576 (.arr 2 (.int .i64)) x1) (x2 : Rg) (w2 : WFv KT11 x2) (s2 : SZ 1048576 KT11 x2) :
    PureOK Try.prog 3 [⟨KT17, x0⟩, ⟨.arr 2 (.int .i64), x1⟩, ⟨KT11, x2⟩] ⟨.bool, true⟩ := by
  have h : F3 (x0, x1, x2, ()) = true ∧ G3 (x0, x1, x2, ()) = true := ofE (E3_eq s0.2.2.2.1.1)
  have := p3 (x0, x1, x2, ()) h.2
  rw [h.1] at this
  exact this
/-! ## What is put whole is read as it was -/
theorem slot_mod (a : Int) {m : Nat} (hm : 0 < m) (h2 : m ≤ 64) : ∃ q : Nat, q < m ∧ Int.tmod (IntKind.wrap .i64 (Int.tmod a (m : Int) + (m : Int))) (m : Int) = (q : Int) := by
  have h : -(m : Int) < Int.tmod a (m : Int) ∧ Int.tmod a (m : Int) < (m : Int) := by
    have h1 := Int.tmod_lt_of_pos a (show (0 : Int) < (m : Int) by omega)
    have h3 := Int.lt_tmod_of_pos a (show (0 : Int) < (m : Int) by omega)
    exact ⟨h3, h1⟩
  rw [wi64 (by omega), Int.tmod_eq_emod_of_nonneg (by omega)]
  have h4 := Int.emod_nonneg (Int.tmod a (m : Int) + (m : Int)) (show ((m : Int)) ≠ 0 by omega)
  have h5 := Int.emod_lt_of_pos (Int.tmod a (m : Int) + (m : Int)) (show (0 : Int) < (m : Int) by omega)
  exact ⟨((Int.tmod a (m : Int) + (m : Int)) % (m : Int)).toNat, by omega, by omega⟩
theorem wst_whole {s : KD6} {q : Nat} {r : Rg} (h : r.1 ≠ 0) : wst s (8 * q) 8 r = (S1 s (lset dS s.2.1 q (2, (0, (r, ())))), 0, ()) := by
  unfold wst whl
  rw [decide_eq_false h, decide_eq_true (show (8 * q) % 8 = 0 by omega), show 8 * q / 8 = q by omega]
  rfl
theorem stk_whole {s : KD6} {q : Nat} {r : Rg} {l : List Sl} : stk (S1 s (lset dS l q (2, (0, (r, ()))))) (8 * q) 8 = (r, 0, ()) := by
  have e : slt (S1 s (lset dS l q (2, (0, (r, ()))))) (8 * q) = (2, (0, (r, ()))) := by
    show (lset dS l q _).getD (8 * q / 8) dS = _
    rw [show 8 * q / 8 = q by omega, lset_get]
  unfold stk whl
  rw [e, decide_eq_true (show (8 * q) % 8 = 0 by omega)]
  rfl
theorem V4_run {q : Nat} {s t : KD6} (h : ∀ i, i ≠ q → t.2.1.getD i dS = s.2.1.getD i dS) : wh V4_0 ((q : Int), (), (), 0, s, t, ()) = some (.inl ()) := by
  have step : ∀ i : Nat, i < 64 → V4_0 ((q : Int), (), (), (i : Int), s, t, ()) = some (.inl ((q : Int), (), (), ((i + 1 : Nat) : Int), s, t, ())) := by
    intro i hi
    show R4_0 _ _ _ _ _ _ _ _ _ _ _ _ (q : Int) () () (i : Int) s t = _
    unfold R4_0
    rw [show IntKind.wrap .i64 ((i : Int) + 1) = ((i + 1 : Nat) : Int) by rw [wi64 (by omega)]; omega, decide_eq_true (show (i : Int) < 64 by omega), Int.toNat_natCast, decide_eq_true (show i < 64 from hi), decide_eq_true (show (0 : Int) ≤ (i : Int) by omega)]
    by_cases hq : i = q
    · subst hq
      rw [decide_eq_true (show (i : Int) = (i : Int) from rfl)]
      rfl
    · rw [decide_eq_false (show ¬ (i : Int) = (q : Int) by omega), h i hq]
      simp only [eq_self, decide_true]
      rfl
  have := wh_steps (f := V4_0) (fun i : Nat => (((q : Int), (), (), (i : Int), s, t, ()) : XD hd4_0)) 64 step
  refine this.trans (wh_stop ?_)
  show R4_0 _ _ _ _ _ _ _ _ _ _ _ _ (q : Int) () () (64 : Int) s t = _
  unfold R4_0
  rfl
theorem E4_eq {s : KD6} {a : Int} {r : Rg} (hl : s.2.2.2.1.length ≤ 1048576) : E4 (s, a, r, ()) = some true := by
  show S4 F6 G6 F7 G7 F8 G8 F9 G9 F11 G11 W4_0 Q4_0 s a r = _
  unfold S4
  have f8 : F8 () = true ∧ G8 () = true := ⟨rfl, rfl⟩
  obtain ⟨q, hq, eq⟩ := slot_mod a (m := 64) (by omega) (by omega)
  have eq : Int.tmod (IntKind.wrap .i64 (Int.tmod a 64 + 64)) 64 = (q : Int) := eq
  rw [eq, show IntKind.wrap .i64 (8 * (q : Int)) = ((8 * q : Nat) : Int) by rw [wi64 (by omega)]; omega]
  obtain ⟨b1, b2⟩ : F11 (s, ((8 * q : Nat) : Int), 8, r, ()) = _ ∧ G11 (s, ((8 * q : Nat) : Int), 8, r, ()) = true := ofE (E11_eq (s := s) (p := 8 * q) (k := 8) (r := r) hl (by omega) (by omega))
  rw [(F6_t s hl).1, G7_t, f8.1, f8.2, b1, b2]
  cases F6 (s, ())
  · rfl
  · cases F7 (r, ())
    · rfl
    · by_cases h0 : r.1 = 0
      · rw [decide_eq_true h0, show wst s (8 * q) 8 r = (d0, 60, ()) by unfold wst; rw [decide_eq_true h0]; rfl]
        rfl
      · rw [decide_eq_false h0, wst_whole h0]
        generalize ht : S1 s (lset dS s.2.1 q (2, (0, (r, ())))) = t
        obtain ⟨c1, c2⟩ : F9 (t, ((8 * q : Nat) : Int), 8, ()) = _ ∧ G9 (t, ((8 * q : Nat) : Int), 8, ()) = true := ofE (E9_eq (s := t) (p := 8 * q) (k := 8) (by omega) (by omega))
        have c3 : stk t (8 * q) 8 = (r, 0, ()) := by rw [← ht]; exact stk_whole
        rw [c3] at c1
        have hrun := V4_run (q := q) (s := s) (t := t) (fun i hi => by
          rw [← ht]
          show (lset dS s.2.1 q _).getD i dS = _
          rw [lset_getD, if_neg hi])
        have ew : W4_0 ((q : Int), (), (), 0, s, t, ()) = .inl () := whV_of hrun
        have ek : Q4_0 ((q : Int), (), (), 0, s, t, ()) = true := whK_of hrun
        simp only [c1, c2, ew, ek, eq_self, decide_true]
        rfl
theorem accessSpills_pure (x0 : KD6) (w0 : WFv KT17 x0) (s0 : SZ 1048576 KT17 x0) (x1 : Int) (w1 : WFv (.int .i64) x1) (s1 : SZ 1048576 (.int .i64) x1) (x2 : Rg) (w2 : WFv KT11 x2) (s2 : SZ 1048576 KT11 x2) :
    PureOK Try.prog 4 [⟨KT17, x0⟩, ⟨.int .i64, x1⟩, ⟨KT11, x2⟩] ⟨.bool, true⟩ := by
  have h : F4 (x0, x1, x2, ()) = true ∧ G4 (x0, x1, x2, ()) = true := ofE (E4_eq s0.2.2.2.1.1)
  have := p4 (x0, x1, x2, ()) h.2
  rw [h.1] at this
  exact this
end Go.Proofs
