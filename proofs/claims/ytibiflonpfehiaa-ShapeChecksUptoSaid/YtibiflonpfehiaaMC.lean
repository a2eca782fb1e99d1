import Derived.Test.YtibiflonpfehiaaMB
namespace Go.Proofs
open Go.GX
set_option linter.unusedVariables false
set_option linter.unusedSimpArgs false
/-! ## Check -/
def tgt (i : In) (k : Nat) : Int := IntKind.wrap .i64 (((k + 1 : Nat) : Int) + i.2.2.2.1)
def badT (l : List In) (b : List Bool) (k : Nat) : Bool := decide (tgt (l.getD k z0) k < 0) || (decide (tgt (l.getD k z0) k ≥ ((l.length : Nat) : Int)) || !b.getD (Int.toNat (tgt (l.getD k z0) k)) false)
noncomputable def bad (l : List In) (b : List Bool) (k : Nat) : Bool := b.getD k false && (jmp (l.getD k z0) && badT l b k)
theorem V7_in {l : List In} {b : List Bool} {k : Nat} {x : Int} (hk : k < l.length) (hb : b.length = l.length) (hl : l.length ≤ 4096) :
    V7_0 (l, b, x, l, ((l.length : Nat) : Int), (k : Int), ()) = some (bif bad l b k then .inr (.inr ((k : Int), 32, ())) else .inl (l, b, (bif b.getD k false then (k : Int) else x), l, ((l.length : Nat) : Int), ((k + 1 : Nat) : Int), ())) := by
  unfold V7_0 R7_0
  dsimp only
  have e1 : IntKind.wrap .i64 ((k : Int) + 1) = ((k + 1 : Nat) : Int) := by rw [wi64 (by omega)]; omega
  rw [show Int.toNat (k : Int) = k by omega, e1, decide_eq_true (show (k : Int) < ((l.length : Nat) : Int) by omega), decide_eq_true (show (0 : Int) ≤ (k : Int) by omega), decide_eq_true (show (k : Int) < ((b.length : Nat) : Int) by omega)]
  simp only [G19_t]
  unfold bad badT jmp tgt
  cases b.getD k false
  · rfl
  · cases F19 (l.getD k z0, ())
    · rfl
    · generalize IntKind.wrap .i64 (((k + 1 : Nat) : Int) + (l.getD k z0).2.2.2.1) = t
      by_cases h1 : t < 0
      · rw [decide_eq_true h1]; rfl
      · rw [decide_eq_false h1]
        by_cases h2 : t ≥ ((l.length : Nat) : Int)
        · rw [decide_eq_true h2]; rfl
        · rw [decide_eq_false h2, decide_eq_true (show 0 ≤ t by omega), decide_eq_true (show t < ((b.length : Nat) : Int) by omega)]
          cases b.getD (Int.toNat t) false <;> rfl
theorem V7_end {l : List In} {b : List Bool} {x : Int} : V7_0 (l, b, x, l, ((l.length : Nat) : Int), ((l.length : Nat) : Int), ()) = some (.inr (.inl (l, x, ()))) := by
  unfold V7_0 R7_0
  dsimp only
  exact (bif_f (decide_eq_false (by omega))).trans rfl
def las (b : List Bool) : Nat → Nat
  | 0 => 0
  | k + 1 => bif b.getD k false then k else las b k
theorem las_c (b : List Bool) (k : Nat) : ((las b (k + 1) : Nat) : Int) = (bif b.getD k false then (k : Int) else (las b k : Int)) := by
  simp only [las]; cases b.getD k false <;> rfl
theorem las_lt {b : List Bool} : ∀ {k : Nat}, 0 < k → las b k < k
  | k + 1, _ => by
    simp only [las]
    cases b.getD k false
    · rcases Nat.eq_zero_or_pos k with h | h
      · subst h; simp [las]
      · have := las_lt (b := b) h
        show las b k < k + 1
        omega
    · show k < k + 1; omega
theorem las_ge {b : List Bool} : ∀ {k j : Nat}, j < k → b.getD j false = true → j ≤ las b k ∧ b.getD (las b k) false = true
  | k + 1, j, hj, h => by
    simp only [las]
    cases e : b.getD k false
    · have : j ≠ k := fun e' => by subst e'; rw [e] at h; cases h
      exact las_ge (k := k) (by omega) h
    · exact ⟨by show j ≤ k; omega, e⟩
def opL (l : List In) (b : List Bool) : Int := (l.getD (las b l.length) z0).1
def Good (l : List In) : Prop := 0 < l.length ∧ l.length ≤ 4096 ∧ ∃ b, bg l = .inl b ∧ (∀ k, k < l.length → bad l b k = false) ∧ (opL l b = 5 ∨ opL l b = 149)
theorem E7_ex (l : List In) : ∃ p c, E7 (l, ()) = some (p, c, ()) ∧ (c = 0 ↔ Good l) := by
  show ∃ p c, S7 F18 G18 F19 G19 W7_0 Q7_0 l = some (p, c, ()) ∧ _
  unfold S7
  by_cases h0 : l.length = 0
  · rw [decide_eq_true (show ((l.length : Nat) : Int) = 0 by omega)]
    exact ⟨0, 32, rfl, fun h => by omega, fun h => absurd h.1 (by omega)⟩
  rw [decide_eq_false (show ¬ ((l.length : Nat) : Int) = 0 by omega)]
  by_cases h1 : l.length ≤ 4096
  · rw [decide_eq_false (show ¬ ((l.length : Nat) : Int) > 4096 by omega)]
    have hF : F18 (l, ()) = resB (bg l) := by show (E18 (l, ())).getD _ = _; rw [E18_eq h1]; rfl
    have hG : G18 (l, ()) = true := by show (E18 (l, ())).isSome = _; rw [E18_eq h1]; rfl
    rw [hF, hG]
    cases hbg : bg l with
    | inr k =>
      refine ⟨(k : Int), 32, ?_, fun h => by omega, fun h => ?_⟩
      · rw [decide_eq_true (show (resB (Sum.inr k)).2.1 ≥ 0 from (by show (k : Int) ≥ 0; omega))]; rfl
      · obtain ⟨_, _, b, e, _⟩ := h; rw [hbg] at e; cases e
    | inl b =>
      have hB := bg_BI hbg
      rw [decide_eq_false (show ¬ (resB (Sum.inl b)).2.1 ≥ 0 from (by show ¬ (-1 : Int) ≥ 0; omega))]
      show ∃ p c, (bif isL (W7_0 (l, b, 0, l, ((l.length : Nat) : Int), 0, ())) then _ else _) = some (p, c, ()) ∧ _
      rcases first_bad (fun k => !bad l b k) l.length with h | ⟨j, g1, g2, g3⟩
      · have hw := (wh_steps (f := V7_0) (fun k => (l, b, ((las b k : Nat) : Int), l, ((l.length : Nat) : Int), (k : Int), ())) l.length (fun k hk => by
          have hn := h k hk
          rw [V7_in hk hB.len h1, show bad l b k = false by simpa using hn, las_c]; rfl)).trans (wh_stop V7_end)
        have e1 : W7_0 (l, b, 0, l, ((l.length : Nat) : Int), 0, ()) = .inl (l, ((las b l.length : Nat) : Int), ()) := whV_of (hd := hd7_0) (ys := ys7_0) hw
        have e2 : Q7_0 (l, b, 0, l, ((l.length : Nat) : Int), 0, ()) = true := whK_of (hd := hd7_0) (ys := ys7_0) hw
        have hg : ∀ k, k < l.length → bad l b k = false := fun k hk => by simpa using h k hk
        have hlt := las_lt (b := b) (k := l.length) (by omega)
        simp only [resB, e1, e2, getL]
        rw [show Int.toNat ((las b l.length : Nat) : Int) = las b l.length by omega, decide_eq_true (show (0 : Int) ≤ ((las b l.length : Nat) : Int) by omega), decide_eq_true (show ((las b l.length : Nat) : Int) < ((l.length : Nat) : Int) by omega)]
        by_cases o5 : opL l b = 5
        · have o5' : (l.getD (las b l.length) z0).1 = 5 := o5
          rw [decide_eq_true o5']
          exact ⟨0, 0, rfl, fun _ => ⟨by omega, h1, b, hbg, hg, .inl o5⟩, fun _ => rfl⟩
        · have o5' : ¬ (l.getD (las b l.length) z0).1 = 5 := o5
          rw [decide_eq_false o5']
          by_cases o9 : opL l b = 149
          · have o9' : (l.getD (las b l.length) z0).1 = 149 := o9
            rw [decide_eq_true o9']
            exact ⟨0, 0, rfl, fun _ => ⟨by omega, h1, b, hbg, hg, .inr o9⟩, fun _ => rfl⟩
          · have o9' : ¬ (l.getD (las b l.length) z0).1 = 149 := o9
            rw [decide_eq_false o9']
            refine ⟨((las b l.length : Nat) : Int), 32, rfl, fun h => by omega, fun hh => ?_⟩
            obtain ⟨_, _, b', e, _, ho⟩ := hh
            rw [hbg] at e; cases e
            rcases ho with ho | ho
            · exact absurd ho o5
            · exact absurd ho o9
      · have g3 : bad l b j = true := by simpa using g3
        have hw := (wh_steps (f := V7_0) (fun k => (l, b, ((las b k : Nat) : Int), l, ((l.length : Nat) : Int), (k : Int), ())) j (fun k hk => by
          have hn := g2 k hk
          rw [V7_in (by omega) hB.len h1, show bad l b k = false by simpa using hn, las_c]; rfl)).trans (wh_stop (by rw [V7_in g1 hB.len h1, g3]; rfl))
        have e1 : W7_0 (l, b, 0, l, ((l.length : Nat) : Int), 0, ()) = .inr ((j : Int), 32, ()) := whV_of (hd := hd7_0) (ys := ys7_0) hw
        have e2 : Q7_0 (l, b, 0, l, ((l.length : Nat) : Int), 0, ()) = true := whK_of (hd := hd7_0) (ys := ys7_0) hw
        simp only [resB, e1, e2, getR]
        refine ⟨(j : Int), 32, rfl, fun h => by omega, fun hh => ?_⟩
        obtain ⟨_, _, b', e, hg, _⟩ := hh
        rw [hbg] at e; cases e
        rw [hg j g1] at g3; cases g3
  · rw [decide_eq_true (show ((l.length : Nat) : Int) > 4096 by omega)]
    exact ⟨0, 32, rfl, fun h => by omega, fun h => absurd h.2.1 h1⟩
theorem F7_ex (l : List In) : ∃ p c, F7 (l, ()) = (p, c, ()) ∧ G7 (l, ()) = true ∧ (c = 0 ↔ Good l) := by
  obtain ⟨p, c, h1, h2⟩ := E7_ex l
  have h : F7 (l, ()) = (p, c, ()) ∧ G7 (l, ()) = true := ofE h1
  exact ⟨p, c, h.1, h.2, h2⟩
end Go.Proofs
