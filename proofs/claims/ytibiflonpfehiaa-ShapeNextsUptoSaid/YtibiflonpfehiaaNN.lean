import Derived.Test.YtibiflonpfehiaaMW
namespace Go.Proofs
open Go.GX
set_option linter.unusedVariables false
set_option linter.unusedSimpArgs false
/-! ## The two say the same -/
theorem F12_t : F12 () = true ∧ G12 () = true := ⟨rfl, rfl⟩
theorem V9_in {r : List Int} {k : Nat} (hk : k < r.length) (hr : r.length ≤ 2) : V9_0 (r, r, (k : Int), ()) = some (.inl (r, r, ((k + 1 : Nat) : Int), ())) := by
  unfold V9_0 R9_0
  dsimp only
  have e1 : IntKind.wrap .i64 ((k : Int) + 1) = ((k + 1 : Nat) : Int) := by rw [wi64 (by omega)]; omega
  rw [e1, decide_eq_true (show (k : Int) < ((r.length : Nat) : Int) by omega), decide_eq_true (show (0 : Int) ≤ (k : Int) by omega), decide_eq_true (rfl : r.getD (Int.toNat (k : Int)) 0 = r.getD (Int.toNat (k : Int)) 0)]
  rfl
theorem V9_end {r : List Int} : V9_0 (r, r, ((r.length : Nat) : Int), ()) = some (.inr (.inl ())) := by
  unfold V9_0 R9_0
  dsimp only
  exact (bif_f (decide_eq_false (by omega))).trans rfl
theorem E9_eq {r : List Int} (hr : r.length ≤ 2) : E9 (r, r, ()) = some true := by
  show S9 W9_0 Q9_0 r r = _
  unfold S9
  have hw := (wh_steps (f := V9_0) (fun k => (r, r, (k : Int), ())) r.length (fun k hk => V9_in hk hr)).trans (wh_stop V9_end)
  have e1 : W9_0 (r, r, 0, ()) = .inl () := whV_of (hd := hd9_0) (ys := ys9_0) hw
  have e2 : Q9_0 (r, r, 0, ()) = true := whK_of (hd := hd9_0) (ys := ys9_0) hw
  rw [e1, e2, decide_eq_true (rfl : ((r.length : Nat) : Int) = ((r.length : Nat) : Int))]
  rfl
theorem nine (l : List In) (x : Int) : F9 (F15 (l, x, ()), F16 (l, x, ()), ()) = true ∧ G9 (F15 (l, x, ()), F16 (l, x, ()), ()) = true ∧ G15 (l, x, ()) = true ∧ G16 (l, x, ()) = true := by
  obtain ⟨r, h1, h2, h3⟩ := next_same l x
  have f1 : F15 (l, x, ()) = r ∧ G15 (l, x, ()) = true := ofE h1
  have f2 : F16 (l, x, ()) = r ∧ G16 (l, x, ()) = true := ofE h2
  have f3 : F9 (r, r, ()) = true ∧ G9 (r, r, ()) = true := ofE (E9_eq h3)
  rw [f1.1, f2.1]
  exact ⟨f3.1, f3.2, f1.2, f2.2⟩
theorem V4_in {l : List In} {o : List Bool} {k : Nat} (hk : k < o.length) (h6 : k < 60) : V4_0 (l, o, o, (k : Int), ()) = some (.inl (l, o, o, ((k + 1 : Nat) : Int), ())) := by
  unfold V4_0 R4_0
  dsimp only
  obtain ⟨n1, n2, n3, n4⟩ := nine l (k : Int)
  have e1 : IntKind.wrap .i64 ((k : Int) + 1) = ((k + 1 : Nat) : Int) := by rw [wi64 (by omega)]; omega
  rw [n1, n2, n3, n4, e1, decide_eq_true (show (k : Int) < ((o.length : Nat) : Int) by omega), decide_eq_true (show (0 : Int) ≤ (k : Int) by omega), decide_eq_true (show (k : Int) < 60 by omega), show (o.getD (Int.toNat (k : Int)) false == o.getD (Int.toNat (k : Int)) false) = true by simp]
  rfl
theorem V4_end {l : List In} {o : List Bool} {i : Nat} (h : o.length ≤ i ∨ 60 ≤ i) : V4_0 (l, o, o, (i : Int), ()) = some (.inr (.inl ())) := by
  unfold V4_0 R4_0
  dsimp only
  by_cases h1 : o.length ≤ i
  · rw [decide_eq_false (show ¬ (i : Int) < ((o.length : Nat) : Int) by omega)]; rfl
  · rw [decide_eq_true (show (i : Int) < ((o.length : Nat) : Int) by omega), decide_eq_false (show ¬ (i : Int) < 60 by omega)]; rfl
theorem E4_eq {l : List In} (x : Int) (hl : l.length ≤ 1048576) : E4 (l, x, ()) = some true := by
  show S4 F9 G9 F12 G12 F13 G13 F14 G14 F15 G15 F16 G16 W4_0 Q4_0 l x = _
  unfold S4
  obtain ⟨o, a1, a2, a3⟩ := reaches_same hl
  have f1 : F13 (l, ()) = o ∧ G13 (l, ()) = true := ofE a1
  have f2 : F14 (l, ()) = o ∧ G14 (l, ()) = true := ofE a2
  obtain ⟨n1, n2, n3, n4⟩ := nine l x
  have hw := (wh_steps (f := V4_0) (fun i => (l, o, o, (i : Int), ())) (min o.length 60) (fun i hi => V4_in (by omega) (by omega))).trans (wh_stop (V4_end (by omega)))
  have e1 : W4_0 (l, o, o, 0, ()) = .inl () := whV_of (hd := hd4_0) (ys := ys4_0) hw
  have e2 : Q4_0 (l, o, o, 0, ()) = true := whK_of (hd := hd4_0) (ys := ys4_0) hw
  rw [f1.1, f1.2, f2.1, f2.2, n1, n2, n3, n4, e1, e2, F12_t.1, F12_t.2, decide_eq_true (rfl : ((o.length : Nat) : Int) = ((o.length : Nat) : Int))]
  rfl
/-! ## The law -/
theorem shapeNexts_pure (x0 : List In) (w0 : WFv (.vsl (.pair (.int .i64) (.pair (.int .i64) (.pair (.int .i64) (.pair (.int .i64) (.pair (.int .i64) .unit)))))) x0) (s0 : SZ 1048576 (.vsl (.pair (.int .i64) (.pair (.int .i64) (.pair (.int .i64) (.pair (.int .i64) (.pair (.int .i64) .unit)))))) x0) (x1 : Int) (w1 : WFv (.int .i64) x1) (s1 : SZ 1048576 (.int .i64) x1) :
    PureOK Try.prog 4 [⟨.vsl (.pair (.int .i64) (.pair (.int .i64) (.pair (.int .i64) (.pair (.int .i64) (.pair (.int .i64) .unit))))), x0⟩, ⟨.int .i64, x1⟩] ⟨.bool, true⟩ := by
  have h : F4 (x0, x1, ()) = true ∧ G4 (x0, x1, ()) = true := ofE (E4_eq x1 s0.1)
  have := p4 (x0, x1, ()) h.2
  rw [h.1] at this
  exact this
end Go.Proofs
