import Derived.Test.YtibiflonpfehiaaMU
namespace Go.Proofs
open Go.GX
set_option linter.unusedVariables false
set_option linter.unusedSimpArgs false
/-! ## Check, as the reference has it -/
theorem V8_in {l : List In} {b : List Bool} {k : Nat} {x : Int} (hk : k < l.length) (hb : b.length = l.length) (hl : l.length ≤ 4096) :
    V8_0 (l, b, x, (k : Int), ()) = some (bif bad l b k then .inr (.inr ((k : Int), 32, ())) else .inl (l, b, (bif b.getD k false then (k : Int) else x), ((k + 1 : Nat) : Int), ())) := by
  unfold V8_0 R8_0
  dsimp only
  have e1 : IntKind.wrap .i64 ((k : Int) + 1) = ((k + 1 : Nat) : Int) := by rw [wi64 (by omega)]; omega
  rw [show Int.toNat (k : Int) = k by omega, e1, decide_eq_true (show (k : Int) < ((l.length : Nat) : Int) by omega), decide_eq_true (show (0 : Int) ≤ (k : Int) by omega), decide_eq_true (show (k : Int) < ((b.length : Nat) : Int) by omega)]
  rw [(F21_e _).1, (F21_e _).2]
  unfold bad badT tgt
  cases b.getD k false
  · rfl
  · cases jmp (l.getD k z0)
    · rfl
    · generalize IntKind.wrap .i64 (((k + 1 : Nat) : Int) + (l.getD k z0).2.2.2.1) = t
      by_cases h1 : t < 0
      · rw [decide_eq_true h1]; rfl
      · rw [decide_eq_false h1]
        by_cases h2 : t ≥ ((l.length : Nat) : Int)
        · rw [decide_eq_true h2]; rfl
        · rw [decide_eq_false h2, decide_eq_true (show 0 ≤ t by omega), decide_eq_true (show t < ((b.length : Nat) : Int) by omega)]
          cases b.getD (Int.toNat t) false <;> rfl
theorem V8_end {l : List In} {b : List Bool} {x : Int} : V8_0 (l, b, x, ((l.length : Nat) : Int), ()) = some (.inr (.inl (l, x, ()))) := by
  unfold V8_0 R8_0
  dsimp only
  exact (bif_f (decide_eq_false (by omega))).trans rfl
theorem E8_ex (l : List In) : ∃ p c, E8 (l, ()) = some (p, c, ()) ∧ (c = 0 ↔ Good l) := by
  show ∃ p c, S8 F20 G20 F21 G21 W8_0 Q8_0 W8_1000004 Q8_1000004 l = some (p, c, ()) ∧ _
  unfold S8
  by_cases h0 : l.length = 0
  · rw [decide_eq_true (show ((l.length : Nat) : Int) = 0 by omega)]
    exact ⟨0, 32, rfl, fun h => by omega, fun h => absurd h.1 (by omega)⟩
  rw [decide_eq_false (show ¬ ((l.length : Nat) : Int) = 0 by omega)]
  by_cases h1 : l.length ≤ 4096
  · rw [decide_eq_false (show ¬ ((l.length : Nat) : Int) > 4096 by omega)]
    have hF : F20 (l, ()) = resB (bg l) := by show (E20 (l, ())).getD _ = _; rw [E20_eq h1]; rfl
    have hG : G20 (l, ()) = true := by show (E20 (l, ())).isSome = _; rw [E20_eq h1]; rfl
    have key : ∃ p c, V8_1000004 (l, ()) = some (p, c, ()) ∧ (c = 0 ↔ Good l) := by
      unfold V8_1000004 R8_1000004
      dsimp only
      rw [hF, hG]
      cases hbg : bg l with
      | inr k =>
        refine ⟨(k : Int), 32, ?_, fun h => by omega, fun h => ?_⟩
        · rw [decide_eq_true (show (resB (Sum.inr k)).2.1 ≥ 0 from (by show (k : Int) ≥ 0; omega))]; rfl
        · obtain ⟨_, _, b, e, _⟩ := h; rw [hbg] at e; cases e
      | inl b =>
        have hB := bg_BI hbg
        rw [decide_eq_false (show ¬ (resB (Sum.inl b)).2.1 ≥ 0 from (by show ¬ (-1 : Int) ≥ 0; omega))]
        show ∃ p c, (bif isL (W8_0 (l, b, 0, 0, ())) then _ else _) = some (p, c, ()) ∧ _
        rcases first_bad (fun k => !bad l b k) l.length with h | ⟨j, g1, g2, g3⟩
        · have hw := (wh_steps (f := V8_0) (fun k => (l, b, ((las b k : Nat) : Int), (k : Int), ())) l.length (fun k hk => by
            have hn := h k hk
            rw [V8_in hk hB.len h1, show bad l b k = false by simpa using hn, las_c]; rfl)).trans (wh_stop V8_end)
          have e1 : W8_0 (l, b, 0, 0, ()) = .inl (l, ((las b l.length : Nat) : Int), ()) := whV_of (hd := hd8_0) (ys := ys8_0) hw
          have e2 : Q8_0 (l, b, 0, 0, ()) = true := whK_of (hd := hd8_0) (ys := ys8_0) hw
          have hg : ∀ k, k < l.length → bad l b k = false := fun k hk => by simpa using h k hk
          have hlt := las_lt (b := b) (k := l.length) (by omega)
          simp only [resB, e1, e2, getL]
          rw [show Int.toNat ((las b l.length : Nat) : Int) = las b l.length by omega, decide_eq_true (show (0 : Int) ≤ ((las b l.length : Nat) : Int) by omega), decide_eq_true (show ((las b l.length : Nat) : Int) < ((l.length : Nat) : Int) by omega)]
          by_cases o9 : opL l b = 149
          · have o9' : (l.getD (las b l.length) z0).1 = 149 := o9
            rw [decide_eq_true o9']
            exact ⟨0, 0, rfl, fun _ => ⟨by omega, h1, b, hbg, hg, .inr o9⟩, fun _ => rfl⟩
          · have o9' : ¬ (l.getD (las b l.length) z0).1 = 149 := o9
            rw [decide_eq_false o9']
            by_cases o5 : opL l b = 5
            · have o5' : (l.getD (las b l.length) z0).1 = 5 := o5
              rw [decide_eq_true o5']
              exact ⟨0, 0, rfl, fun _ => ⟨by omega, h1, b, hbg, hg, .inl o5⟩, fun _ => rfl⟩
            · have o5' : ¬ (l.getD (las b l.length) z0).1 = 5 := o5
              rw [decide_eq_false o5']
              refine ⟨((las b l.length : Nat) : Int), 32, rfl, fun h => by omega, fun hh => ?_⟩
              obtain ⟨_, _, b', e, _, ho⟩ := hh
              rw [hbg] at e; cases e
              rcases ho with ho | ho
              · exact absurd ho o5
              · exact absurd ho o9
        · have g3 : bad l b j = true := by simpa using g3
          have hw := (wh_steps (f := V8_0) (fun k => (l, b, ((las b k : Nat) : Int), (k : Int), ())) j (fun k hk => by
            have hn := g2 k hk
            rw [V8_in (by omega) hB.len h1, show bad l b k = false by simpa using hn, las_c]; rfl)).trans (wh_stop (by rw [V8_in g1 hB.len h1, g3]; rfl))
          have e1 : W8_0 (l, b, 0, 0, ()) = .inr ((j : Int), 32, ()) := whV_of (hd := hd8_0) (ys := ys8_0) hw
          have e2 : Q8_0 (l, b, 0, 0, ()) = true := whK_of (hd := hd8_0) (ys := ys8_0) hw
          simp only [resB, e1, e2, getR]
          refine ⟨(j : Int), 32, rfl, fun h => by omega, fun hh => ?_⟩
          obtain ⟨_, _, b', e, hg, _⟩ := hh
          rw [hbg] at e; cases e
          rw [hg j g1] at g3; cases g3
    obtain ⟨p, c, k1, k2⟩ := key
    have w1 : W8_1000004 (l, ()) = (p, c, ()) := jnV_of (hd := hd8_1000004) (ys := ys8_1000004) k1
    have w2 : Q8_1000004 (l, ()) = true := jnK_of (hd := hd8_1000004) (ys := ys8_1000004) k1
    rw [w1, w2]
    exact ⟨p, c, rfl, k2⟩
  · rw [decide_eq_true (show ((l.length : Nat) : Int) > 4096 by omega)]
    exact ⟨0, 32, rfl, fun h => by omega, fun h => absurd h.2.1 h1⟩
theorem F8_ex (l : List In) : ∃ p c, F8 (l, ()) = (p, c, ()) ∧ G8 (l, ()) = true ∧ (c = 0 ↔ Good l) := by
  obtain ⟨p, c, h1, h2⟩ := E8_ex l
  have h : F8 (l, ()) = (p, c, ()) ∧ G8 (l, ()) = true := ofE h1
  exact ⟨p, c, h.1, h.2, h2⟩
/-! ## Next, as the reference has it -/
theorem jmp_v (i : In) : jmp i = (bif decide (iand .i64 i.1 7 = 5) || decide (iand .i64 i.1 7 = 6) then (!(decide (i.1 = 133))) && !(decide (i.1 = 149)) else false) := by
  have hj : E19 (i, ()) = some (bif decide (iand .i64 i.1 7 = 5) || decide (iand .i64 i.1 7 = 6) then (!(decide (i.1 = 133))) && !(decide (i.1 = 149)) else false) := by
    show S19 F28 G28 i = _
    unfold S19
    rw [F28_e, G28_t]
    cases decide (iand .i64 i.1 7 = 5) <;> cases decide (iand .i64 i.1 7 = 6) <;> cases decide (i.1 = 133) <;> rfl
  exact (ofE hj : F19 (i, ()) = _ ∧ G19 (i, ()) = true).1
theorem E26_eq {l : List In} {k : Nat} (hk : k < l.length) (hl : l.length ≤ 4096) : E26 (l, (k : Int), ()) = some (nx l k) := by
  show S26 F21 G21 l (k : Int) = _
  unfold S26
  have e1 : IntKind.wrap .i64 ((k : Int) + 1) = ((k + 1 : Nat) : Int) := by rw [wi64 (by omega)]; omega
  have e2 : IntKind.wrap .i64 ((k : Int) + 2) = ((k + 2 : Nat) : Int) := by rw [wi64 (by omega)]; omega
  rw [show Int.toNat (k : Int) = k by omega, e1, e2, decide_eq_true (show (0 : Int) ≤ (k : Int) by omega), decide_eq_true (show (k : Int) < ((l.length : Nat) : Int) by omega), (F21_e _).1, (F21_e _).2]
  unfold nx tgt lng wd
  by_cases h9 : (l.getD k z0).1 = 149
  · have hj : jmp (l.getD k z0) = false := by rw [jmp_v, h9]; rfl
    rw [decide_eq_true h9, hj]; rfl
  · rw [decide_eq_false h9]
    by_cases h5 : (l.getD k z0).1 = 5
    · have hj : jmp (l.getD k z0) = true := by rw [jmp_v, h5]; rfl
      rw [decide_eq_true h5, hj]; rfl
    · rw [decide_eq_false h5]
      by_cases h24 : (l.getD k z0).1 = 24
      · have hj : jmp (l.getD k z0) = false := by rw [jmp_v, h24]; rfl
        rw [decide_eq_true h24, hj]; rfl
      · rw [decide_eq_false h24]
        cases jmp (l.getD k z0) <;> rfl
theorem F26_eq {l : List In} {k : Nat} (hk : k < l.length) (hl : l.length ≤ 4096) : F26 (l, (k : Int), ()) = nx l k ∧ G26 (l, (k : Int), ()) = true := ofE (E26_eq hk hl)
theorem F20_b {l : List In} {b : List Bool} (hl : l.length ≤ 4096) (h : bg l = .inl b) : F20 (l, ()) = (b, -1, ()) ∧ G20 (l, ()) = true := by
  have := E20_eq hl
  rw [h] at this
  exact ofE this
theorem E16_eq {l : List In} {b : List Bool} {k : Nat} (hg : Good l) (hb : bg l = .inl b) (hk : k < l.length) : E16 (l, (k : Int), ()) = some (bif b.getD k false then nx l k else []) := by
  show S16 F8 G8 F20 G20 F26 G26 l (k : Int) = _
  unfold S16
  obtain ⟨p, c, h1, h2, h3⟩ := F8_ex l
  have hc : c = 0 := h3.2 hg
  subst hc
  have hB := bg_BI hb
  rw [h1, h2, (F20_b hg.2.1 hb).1, (F20_b hg.2.1 hb).2, (F26_eq hk hg.2.1).1, (F26_eq hk hg.2.1).2]
  rw [show Int.toNat (k : Int) = k by omega, decide_eq_false (show ¬ (k : Int) < 0 by omega), decide_eq_false (show ¬ (k : Int) ≥ ((l.length : Nat) : Int) by omega)]
  have := hB.len
  rw [decide_eq_true (show (0 : Int) ≤ (k : Int) by omega), decide_eq_true (show (k : Int) < ((b.length : Nat) : Int) by omega)]
  cases b.getD k false <;> rfl
/-- both, of any place -/
theorem next_same (l : List In) (x : Int) : ∃ r, E15 (l, x, ()) = some r ∧ E16 (l, x, ()) = some r ∧ r.length ≤ 2 := by
  by_cases hg : Good l
  · by_cases hx : 0 ≤ x ∧ x < ((l.length : Nat) : Int)
    · obtain ⟨h0, h1, b, hb, _⟩ := id hg
      have hk : x.toNat < l.length := by omega
      have e := E15_eq hg hb hk
      have e' := E16_eq hg hb hk
      rw [show ((x.toNat : Nat) : Int) = x by omega] at e e'
      refine ⟨_, e, e', ?_⟩
      cases b.getD x.toNat false
      · simp
      · exact nx_len l _
    · refine ⟨[], ?_, ?_, by simp⟩
      · show S15 F7 G7 F18 G18 F25 G25 l x = _
        unfold S15
        obtain ⟨p, c, h1, h2, h3⟩ := F7_ex l
        have hc : c = 0 := h3.2 hg
        subst hc
        rw [h1, h2]
        by_cases h0 : x < 0
        · rw [decide_eq_true h0]; rfl
        · rw [decide_eq_false h0, decide_eq_true (show x ≥ ((l.length : Nat) : Int) by omega)]; rfl
      · show S16 F8 G8 F20 G20 F26 G26 l x = _
        unfold S16
        obtain ⟨p, c, h1, h2, h3⟩ := F8_ex l
        have hc : c = 0 := h3.2 hg
        subst hc
        rw [h1, h2]
        by_cases h0 : x < 0
        · rw [decide_eq_true h0]; rfl
        · rw [decide_eq_false h0, decide_eq_true (show x ≥ ((l.length : Nat) : Int) by omega)]; rfl
  · refine ⟨[], ?_, ?_, by simp⟩
    · show S15 F7 G7 F18 G18 F25 G25 l x = _
      unfold S15
      obtain ⟨p, c, h1, h2, h3⟩ := F7_ex l
      have hc : ¬ c = 0 := fun h => hg (h3.1 h)
      rw [h1, h2, decide_eq_false hc]; rfl
    · show S16 F8 G8 F20 G20 F26 G26 l x = _
      unfold S16
      obtain ⟨p, c, h1, h2, h3⟩ := F8_ex l
      have hc : ¬ c = 0 := fun h => hg (h3.1 h)
      rw [h1, h2, decide_eq_false hc]; rfl
end Go.Proofs
