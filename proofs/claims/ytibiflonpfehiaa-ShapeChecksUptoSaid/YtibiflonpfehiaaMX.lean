import Derived.Test.YtibiflonpfehiaaMV
import Derived.Test.YtibiflonpfehiaaIK
namespace Go.Proofs
open Go.GX
set_option linter.unusedVariables false
set_option linter.unusedSimpArgs false
/-! ## Check: the same place, the same error -/
inductive Ans (l : List In) : Int → Int → Prop
  | bg (k : Nat) : bg l = .inr k → Ans l (k : Int) 32
  | bad (b : List Bool) (j : Nat) : Go.Proofs.bg l = .inl b → j < l.length → Go.Proofs.bad l b j = true → (∀ k, k < j → Go.Proofs.bad l b k = false) → Ans l (j : Int) 32
  | ok (b : List Bool) : Go.Proofs.bg l = .inl b → (∀ k, k < l.length → Go.Proofs.bad l b k = false) → (opL l b = 5 ∨ opL l b = 149) → Ans l 0 0
  | op (b : List Bool) : Go.Proofs.bg l = .inl b → (∀ k, k < l.length → Go.Proofs.bad l b k = false) → ¬ opL l b = 5 → ¬ opL l b = 149 → Ans l ((las b l.length : Nat) : Int) 32
theorem ans_ex (l : List In) : ∃ p c, Ans l p c := by
  cases hbg : bg l with
  | inr k => exact ⟨_, _, .bg k hbg⟩
  | inl b =>
    rcases first_bad (fun k => !bad l b k) l.length with h | ⟨j, g1, g2, g3⟩
    · have hg : ∀ k, k < l.length → bad l b k = false := fun k hk => by simpa using h k hk
      by_cases o5 : opL l b = 5
      · exact ⟨_, _, .ok b hbg hg (.inl o5)⟩
      · by_cases o9 : opL l b = 149
        · exact ⟨_, _, .ok b hbg hg (.inr o9)⟩
        · exact ⟨_, _, .op b hbg hg o5 o9⟩
    · exact ⟨_, _, .bad b j hbg g1 (by simpa using g3) (fun k hk => by simpa using g2 k hk)⟩
theorem E7_z {l : List In} (h : l.length = 0 ∨ 4096 < l.length) : E7 (l, ()) = some (0, 32, ()) := by
  show S7 F18 G18 F19 G19 W7_0 Q7_0 l = _
  unfold S7
  rcases h with h | h
  · rw [decide_eq_true (show ((l.length : Nat) : Int) = 0 by omega)]; rfl
  · rw [decide_eq_false (show ¬ ((l.length : Nat) : Int) = 0 by omega), decide_eq_true (show ((l.length : Nat) : Int) > 4096 by omega)]; rfl
theorem E7_is {l : List In} (h0 : ¬ l.length = 0) (h1 : l.length ≤ 4096) {p c : Int} (ha : Ans l p c) : E7 (l, ()) = some (p, c, ()) := by
  show S7 F18 G18 F19 G19 W7_0 Q7_0 l = some (p, c, ())
  unfold S7
  rw [decide_eq_false (show ¬ ((l.length : Nat) : Int) = 0 by omega), decide_eq_false (show ¬ ((l.length : Nat) : Int) > 4096 by omega)]
  have hF : F18 (l, ()) = resB (bg l) := by show (E18 (l, ())).getD _ = _; rw [E18_eq h1]; rfl
  have hG : G18 (l, ()) = true := by show (E18 (l, ())).isSome = _; rw [E18_eq h1]; rfl
  rw [hF, hG]
  cases ha with
  | bg k hbg =>
    rw [hbg, decide_eq_true (show (resB (Sum.inr k)).2.1 ≥ 0 from (by show (k : Int) ≥ 0; omega))]; rfl
  | bad b j hbg g1 g3 g2 =>
    rw [hbg]
    have hB := bg_BI hbg
    rw [decide_eq_false (show ¬ (resB (Sum.inl b)).2.1 ≥ 0 from (by show ¬ (-1 : Int) ≥ 0; omega))]
    have hw := (wh_steps (f := V7_0) (fun k => (l, b, ((las b k : Nat) : Int), l, ((l.length : Nat) : Int), (k : Int), ())) j (fun k hk => by
      have hn := g2 k hk
      rw [V7_in (by omega) hB.len h1, hn, las_c]; rfl)).trans (wh_stop (by rw [V7_in g1 hB.len h1, g3]; rfl))
    have e1 : W7_0 (l, b, 0, l, ((l.length : Nat) : Int), 0, ()) = .inr ((j : Int), 32, ()) := whV_of (hd := hd7_0) (ys := ys7_0) hw
    have e2 : Q7_0 (l, b, 0, l, ((l.length : Nat) : Int), 0, ()) = true := whK_of (hd := hd7_0) (ys := ys7_0) hw
    simp only [resB, e1, e2, getR]
    rfl
  | ok b hbg hg ho =>
    rw [hbg]
    have hB := bg_BI hbg
    rw [decide_eq_false (show ¬ (resB (Sum.inl b)).2.1 ≥ 0 from (by show ¬ (-1 : Int) ≥ 0; omega))]
    have hw := (wh_steps (f := V7_0) (fun k => (l, b, ((las b k : Nat) : Int), l, ((l.length : Nat) : Int), (k : Int), ())) l.length (fun k hk => by
      have hn := hg k hk
      rw [V7_in hk hB.len h1, hn, las_c]; rfl)).trans (wh_stop V7_end)
    have e1 : W7_0 (l, b, 0, l, ((l.length : Nat) : Int), 0, ()) = .inl (l, ((las b l.length : Nat) : Int), ()) := whV_of (hd := hd7_0) (ys := ys7_0) hw
    have e2 : Q7_0 (l, b, 0, l, ((l.length : Nat) : Int), 0, ()) = true := whK_of (hd := hd7_0) (ys := ys7_0) hw
    have hlt := las_lt (b := b) (k := l.length) (by omega)
    simp only [resB, e1, e2, getL]
    rw [show Int.toNat ((las b l.length : Nat) : Int) = las b l.length by omega, decide_eq_true (show (0 : Int) ≤ ((las b l.length : Nat) : Int) by omega), decide_eq_true (show ((las b l.length : Nat) : Int) < ((l.length : Nat) : Int) by omega)]
    by_cases oA : opL l b = 5
    · have oA' : (l.getD (las b l.length) z0).1 = 5 := oA
      rw [decide_eq_true oA']; rfl
    · have oA' : ¬ (l.getD (las b l.length) z0).1 = 5 := oA
      have oB' : (l.getD (las b l.length) z0).1 = 149 := by
        rcases ho with ho | ho
        · first | exact ho | exact absurd ho oA
        · first | exact ho | exact absurd ho oA
      rw [decide_eq_false oA', decide_eq_true oB']; rfl
  | op b hbg hg o5 o9 =>
    rw [hbg]
    have hB := bg_BI hbg
    rw [decide_eq_false (show ¬ (resB (Sum.inl b)).2.1 ≥ 0 from (by show ¬ (-1 : Int) ≥ 0; omega))]
    have hw := (wh_steps (f := V7_0) (fun k => (l, b, ((las b k : Nat) : Int), l, ((l.length : Nat) : Int), (k : Int), ())) l.length (fun k hk => by
      have hn := hg k hk
      rw [V7_in hk hB.len h1, hn, las_c]; rfl)).trans (wh_stop V7_end)
    have e1 : W7_0 (l, b, 0, l, ((l.length : Nat) : Int), 0, ()) = .inl (l, ((las b l.length : Nat) : Int), ()) := whV_of (hd := hd7_0) (ys := ys7_0) hw
    have e2 : Q7_0 (l, b, 0, l, ((l.length : Nat) : Int), 0, ()) = true := whK_of (hd := hd7_0) (ys := ys7_0) hw
    have hlt := las_lt (b := b) (k := l.length) (by omega)
    simp only [resB, e1, e2, getL]
    rw [show Int.toNat ((las b l.length : Nat) : Int) = las b l.length by omega, decide_eq_true (show (0 : Int) ≤ ((las b l.length : Nat) : Int) by omega), decide_eq_true (show ((las b l.length : Nat) : Int) < ((l.length : Nat) : Int) by omega)]
    have o5' : ¬ (l.getD (las b l.length) z0).1 = 5 := o5
    have o9' : ¬ (l.getD (las b l.length) z0).1 = 149 := o9
    rw [decide_eq_false o5', decide_eq_false o9']; rfl
theorem E8_z {l : List In} (h : l.length = 0 ∨ 4096 < l.length) : E8 (l, ()) = some (0, 32, ()) := by
  show S8 F20 G20 F21 G21 W8_0 Q8_0 W8_1000004 Q8_1000004 l = _
  unfold S8
  rcases h with h | h
  · rw [decide_eq_true (show ((l.length : Nat) : Int) = 0 by omega)]; rfl
  · rw [decide_eq_false (show ¬ ((l.length : Nat) : Int) = 0 by omega), decide_eq_true (show ((l.length : Nat) : Int) > 4096 by omega)]; rfl
theorem E8_is {l : List In} (h0 : ¬ l.length = 0) (h1 : l.length ≤ 4096) {p c : Int} (ha : Ans l p c) : E8 (l, ()) = some (p, c, ()) := by
  show S8 F20 G20 F21 G21 W8_0 Q8_0 W8_1000004 Q8_1000004 l = some (p, c, ())
  unfold S8
  rw [decide_eq_false (show ¬ ((l.length : Nat) : Int) = 0 by omega), decide_eq_false (show ¬ ((l.length : Nat) : Int) > 4096 by omega)]
  have hF : F20 (l, ()) = resB (bg l) := by show (E20 (l, ())).getD _ = _; rw [E20_eq h1]; rfl
  have hG : G20 (l, ()) = true := by show (E20 (l, ())).isSome = _; rw [E20_eq h1]; rfl
  have key : V8_1000004 (l, ()) = some (p, c, ()) := by
    unfold V8_1000004 R8_1000004
    dsimp only
    rw [hF, hG]
    cases ha with
    | bg k hbg =>
      rw [hbg, decide_eq_true (show (resB (Sum.inr k)).2.1 ≥ 0 from (by show (k : Int) ≥ 0; omega))]; rfl
    | bad b j hbg g1 g3 g2 =>
      rw [hbg]
      have hB := bg_BI hbg
      rw [decide_eq_false (show ¬ (resB (Sum.inl b)).2.1 ≥ 0 from (by show ¬ (-1 : Int) ≥ 0; omega))]
      have hw := (wh_steps (f := V8_0) (fun k => (l, b, ((las b k : Nat) : Int), (k : Int), ())) j (fun k hk => by
        have hn := g2 k hk
        rw [V8_in (by omega) hB.len h1, hn, las_c]; rfl)).trans (wh_stop (by rw [V8_in g1 hB.len h1, g3]; rfl))
      have e1 : W8_0 (l, b, 0, 0, ()) = .inr ((j : Int), 32, ()) := whV_of (hd := hd8_0) (ys := ys8_0) hw
      have e2 : Q8_0 (l, b, 0, 0, ()) = true := whK_of (hd := hd8_0) (ys := ys8_0) hw
      simp only [resB, e1, e2, getR]
      rfl
    | ok b hbg hg ho =>
      rw [hbg]
      have hB := bg_BI hbg
      rw [decide_eq_false (show ¬ (resB (Sum.inl b)).2.1 ≥ 0 from (by show ¬ (-1 : Int) ≥ 0; omega))]
      have hw := (wh_steps (f := V8_0) (fun k => (l, b, ((las b k : Nat) : Int), (k : Int), ())) l.length (fun k hk => by
        have hn := hg k hk
        rw [V8_in hk hB.len h1, hn, las_c]; rfl)).trans (wh_stop V8_end)
      have e1 : W8_0 (l, b, 0, 0, ()) = .inl (l, ((las b l.length : Nat) : Int), ()) := whV_of (hd := hd8_0) (ys := ys8_0) hw
      have e2 : Q8_0 (l, b, 0, 0, ()) = true := whK_of (hd := hd8_0) (ys := ys8_0) hw
      have hlt := las_lt (b := b) (k := l.length) (by omega)
      simp only [resB, e1, e2, getL]
      rw [show Int.toNat ((las b l.length : Nat) : Int) = las b l.length by omega, decide_eq_true (show (0 : Int) ≤ ((las b l.length : Nat) : Int) by omega), decide_eq_true (show ((las b l.length : Nat) : Int) < ((l.length : Nat) : Int) by omega)]
      by_cases oA : opL l b = 149
      · have oA' : (l.getD (las b l.length) z0).1 = 149 := oA
        rw [decide_eq_true oA']; rfl
      · have oA' : ¬ (l.getD (las b l.length) z0).1 = 149 := oA
        have oB' : (l.getD (las b l.length) z0).1 = 5 := by
          rcases ho with ho | ho
          · first | exact ho | exact absurd ho oA
          · first | exact ho | exact absurd ho oA
        rw [decide_eq_false oA', decide_eq_true oB']; rfl
    | op b hbg hg o5 o9 =>
      rw [hbg]
      have hB := bg_BI hbg
      rw [decide_eq_false (show ¬ (resB (Sum.inl b)).2.1 ≥ 0 from (by show ¬ (-1 : Int) ≥ 0; omega))]
      have hw := (wh_steps (f := V8_0) (fun k => (l, b, ((las b k : Nat) : Int), (k : Int), ())) l.length (fun k hk => by
        have hn := hg k hk
        rw [V8_in hk hB.len h1, hn, las_c]; rfl)).trans (wh_stop V8_end)
      have e1 : W8_0 (l, b, 0, 0, ()) = .inl (l, ((las b l.length : Nat) : Int), ()) := whV_of (hd := hd8_0) (ys := ys8_0) hw
      have e2 : Q8_0 (l, b, 0, 0, ()) = true := whK_of (hd := hd8_0) (ys := ys8_0) hw
      have hlt := las_lt (b := b) (k := l.length) (by omega)
      simp only [resB, e1, e2, getL]
      rw [show Int.toNat ((las b l.length : Nat) : Int) = las b l.length by omega, decide_eq_true (show (0 : Int) ≤ ((las b l.length : Nat) : Int) by omega), decide_eq_true (show ((las b l.length : Nat) : Int) < ((l.length : Nat) : Int) by omega)]
      have o5' : ¬ (l.getD (las b l.length) z0).1 = 5 := o5
      have o9' : ¬ (l.getD (las b l.length) z0).1 = 149 := o9
      rw [decide_eq_false o5', decide_eq_false o9']; rfl
  have w1 : W8_1000004 (l, ()) = (p, c, ()) := jnV_of (hd := hd8_1000004) (ys := ys8_1000004) key
  have w2 : Q8_1000004 (l, ()) = true := jnK_of (hd := hd8_1000004) (ys := ys8_1000004) key
  rw [w1, w2]
  rfl
theorem check_same (l : List In) : ∃ p c, E7 (l, ()) = some (p, c, ()) ∧ E8 (l, ()) = some (p, c, ()) := by
  by_cases h : l.length = 0 ∨ 4096 < l.length
  · exact ⟨_, _, E7_z h, E8_z h⟩
  · obtain ⟨p, c, ha⟩ := ans_ex l
    exact ⟨p, c, E7_is (by omega) (by omega) ha, E8_is (by omega) (by omega) ha⟩
/-! ## Which maps are named -/
def hb (o : List Int) (m : Int) : Nat → Bool
  | 0 => false
  | j + 1 => hb o m j || decide (o.getD j 0 = m)
theorem hb_iff {o : List Int} {m : Int} : ∀ {n : Nat}, hb o m n = true ↔ ∃ j, j < n ∧ m = o.getD j 0
  | 0 => by simp [hb]
  | n + 1 => by
    simp only [hb, Bool.or_eq_true, decide_eq_true_eq, hb_iff (n := n)]
    constructor
    · rintro (⟨j, h1, h2⟩ | h)
      · exact ⟨j, by omega, h2⟩
      · exact ⟨n, by omega, h.symm⟩
    · rintro ⟨j, h1, h2⟩
      by_cases e : j = n
      · subst e; exact .inr h2.symm
      · exact .inl ⟨j, by omega, h2⟩
theorem F24_e {o : List Int} {m : Int} (ho : o.length ≤ maxLen) : F24 (o, m, ()) = hb o m o.length ∧ G24 (o, m, ()) = true := by
  refine ⟨?_, G24_t o m ho⟩
  show (S24 F35 G35 o m).getD _ = _
  unfold S24
  rw [G35_t o m ho]
  show decide (F35 (o, m, ()) ≥ 0) = _
  rw [Bool.eq_iff_iff, F35_e o m ho, hb_iff]
def addm (l : List In) (k : Nat) (o : List Int) : List Int :=
  bif wd (l.getD k z0) then (bif decide ((l.getD k z0).2.2.1 = 1) then (bif !hb o (l.getD k z0).2.2.2.2.1 o.length then o ++ [(l.getD k z0).2.2.2.2.1] else o) else o) else o
theorem addm_len (l : List In) (k : Nat) (o : List Int) : (addm l k o).length ≤ o.length + 1 := by
  unfold addm
  cases wd (l.getD k z0)
  · show o.length ≤ _; omega
  · cases decide ((l.getD k z0).2.2.1 = 1)
    · show o.length ≤ _; omega
    · cases hb o (l.getD k z0).2.2.2.2.1 o.length
      · show (o ++ [_]).length ≤ _; simp
      · show o.length ≤ _; omega
theorem V10_in {l : List In} {k : Nat} {o : List Int} (hk : k < l.length) (hl : l.length ≤ 1048576) (ho : o.length ≤ k) : V10_0 (l, o, (k : Int), ()) = some (.inl (l, addm l k o, ((k + lng (l.getD k z0) : Nat) : Int), ())) := by
  have hp := lng_pos (l.getD k z0)
  have hm : o.length ≤ maxLen := Nat.le_trans (show o.length ≤ 1048576 by omega) (by decide)
  unfold V10_0 R10_0
  dsimp only
  have e1 : IntKind.wrap .i64 ((k : Int) + (lng (l.getD k z0) : Int)) = ((k + lng (l.getD k z0) : Nat) : Int) := by rw [wi64 (by omega)]; omega
  have s1 : sec 0 (o ++ [(l.getD k z0).2.2.2.2.1]) 0 (o.length + 1) = o ++ [(l.getD k z0).2.2.2.2.1] := sec_full (by simp)
  rw [show Int.toNat (k : Int) = k by omega, sec_full (l := o) rfl, (F24_e hm).1, (F24_e hm).2, (F22_e _).1, (F22_e _).2, F23_e, G23_t, e1, s1, decide_eq_true (show (k : Int) < ((l.length : Nat) : Int) by omega), decide_eq_true (show (0 : Int) ≤ (k : Int) by omega),
    decide_eq_true (show 0 + (o.length + 1) ≤ o.length + 1 by omega), decide_eq_true (show 0 + o.length ≤ o.length by omega), decide_eq_true (show (o.length + 1) * 8 ≤ 140737488355328 by omega)]
  unfold addm wd
  cases decide ((l.getD k z0).1 = 24)
  · rfl
  · cases decide ((l.getD k z0).2.2.1 = 1)
    · rfl
    · cases hb o (l.getD k z0).2.2.2.2.1 o.length <;> rfl
theorem V10_end {l : List In} {k : Nat} {o : List Int} (hk : l.length ≤ k) : V10_0 (l, o, (k : Int), ()) = some (.inr (o, ())) := by
  unfold V10_0 R10_0
  dsimp only
  rw [decide_eq_false (show ¬ (k : Int) < ((l.length : Nat) : Int) by omega), sec_full (l := o) rfl, decide_eq_true (show 0 + o.length ≤ o.length by omega)]
  rfl
theorem V11b_in {l : List In} {k j : Nat} {o : List Int} {t : Bool} (hk : k < l.length) (hl : l.length ≤ 1048576) (hj : j < o.length) (ho : o.length ≤ k) :
    V11_2 (l, o, (k : Int), (hb o (l.getD k z0).2.2.2.2.1 j || t), (j : Int), ()) = some (.inl (l, o, (k : Int), (hb o (l.getD k z0).2.2.2.2.1 (j + 1) || t), ((j + 1 : Nat) : Int), ())) := by
  unfold V11_2 R11_2
  dsimp only
  have e1 : IntKind.wrap .i64 ((j : Int) + 1) = ((j + 1 : Nat) : Int) := by rw [wi64 (by omega)]; omega
  rw [show Int.toNat (k : Int) = k by omega, show Int.toNat (j : Int) = j by omega, show 0 + j = j by omega, e1, sec_full (l := o) rfl, decide_eq_true (show (j : Int) < ((o.length : Nat) : Int) by omega), decide_eq_true (show (k : Int) < ((l.length : Nat) : Int) by omega), decide_eq_true (show (0 : Int) ≤ (k : Int) by omega),
    decide_eq_true (show (0 : Int) ≤ (j : Int) by omega), decide_eq_true (show j < o.length by omega), decide_eq_true (show 0 + o.length ≤ o.length by omega)]
  simp only [hb]
  cases hb o (l.getD k z0).2.2.2.2.1 j
  · cases t
    · cases decide (o.getD j 0 = (l.getD k z0).2.2.2.2.1) <;> rfl
    · cases decide (o.getD j 0 = (l.getD k z0).2.2.2.2.1) <;> rfl
  · rfl
theorem V11b_end {l : List In} {k : Int} {o : List Int} {t : Bool} : V11_2 (l, o, k, t, ((o.length : Nat) : Int), ()) = some (.inr (l, o, k, t, ())) := by
  unfold V11_2 R11_2
  dsimp only
  rw [decide_eq_false (show ¬ ((o.length : Nat) : Int) < ((o.length : Nat) : Int) by omega), sec_full (l := o) rfl, decide_eq_true (show 0 + o.length ≤ o.length by omega)]
  rfl
theorem W11b {l : List In} {k : Nat} {o : List Int} {t : Bool} (hk : k < l.length) (hl : l.length ≤ 1048576) (ho : o.length ≤ k) :
    W11_2 (l, o, (k : Int), t, 0, ()) = (l, o, (k : Int), (hb o (l.getD k z0).2.2.2.2.1 o.length || t), ()) ∧ Q11_2 (l, o, (k : Int), t, 0, ()) = true := by
  have hw := (wh_steps (f := V11_2) (fun j => (l, o, (k : Int), (hb o (l.getD k z0).2.2.2.2.1 j || t), (j : Int), ())) o.length (fun j hj => V11b_in hk hl hj ho)).trans (wh_stop V11b_end)
  exact ⟨whV_of (hd := hd11_2) (ys := ys11_2) hw, whK_of (hd := hd11_2) (ys := ys11_2) hw⟩
theorem V11_in {l : List In} {k : Nat} {o : List Int} (hk : k < l.length) (hl : l.length ≤ 1048576) (ho : o.length ≤ k) : V11_0 (l, o, (k : Int), ()) = some (.inl (l, addm l k o, ((k + lng (l.getD k z0) : Nat) : Int), ())) := by
  unfold V11_0 R11_0
  dsimp only
  have e1 : IntKind.wrap .i64 ((k : Int) + 1) = ((k + 1 : Nat) : Int) := by rw [wi64 (by omega)]; omega
  have e2 : IntKind.wrap .i64 (((k + 1 : Nat) : Int) + 1) = ((k + 2 : Nat) : Int) := by rw [wi64 (by omega)]; omega
  have s1 : sec 0 (o ++ [(l.getD k z0).2.2.2.2.1]) 0 (o.length + 1) = o ++ [(l.getD k z0).2.2.2.2.1] := sec_full (by simp)
  have w := W11b (t := !decide ((l.getD k z0).2.2.1 = 1)) hk hl ho
  rw [show Int.toNat (k : Int) = k by omega, sec_full (l := o) rfl, w.1, w.2]
  dsimp only
  rw [show Int.toNat (k : Int) = k by omega, sec_full (l := o) rfl, e1, e2, s1, decide_eq_true (show (k : Int) < ((l.length : Nat) : Int) by omega), decide_eq_true (show (0 : Int) ≤ (k : Int) by omega),
    decide_eq_true (show 0 + (o.length + 1) ≤ o.length + 1 by omega), decide_eq_true (show 0 + o.length ≤ o.length by omega), decide_eq_true (show (o.length + 1) * 8 ≤ 140737488355328 by omega)]
  unfold addm lng wd
  cases decide ((l.getD k z0).1 = 24)
  · rfl
  · cases decide ((l.getD k z0).2.2.1 = 1)
    · cases hb o (l.getD k z0).2.2.2.2.1 o.length <;> rfl
    · cases hb o (l.getD k z0).2.2.2.2.1 o.length <;> rfl
theorem V11_end {l : List In} {k : Nat} {o : List Int} (hk : l.length ≤ k) : V11_0 (l, o, (k : Int), ()) = some (.inr (o, ())) := by
  unfold V11_0 R11_0
  dsimp only
  rw [decide_eq_false (show ¬ (k : Int) < ((l.length : Nat) : Int) by omega), sec_full (l := o) rfl, decide_eq_true (show 0 + o.length ≤ o.length by omega)]
  rfl
theorem maps_run {l : List In} (hl : l.length ≤ 1048576) : ∀ (f k : Nat) (o : List Int), l.length ≤ k + f → o.length ≤ k → ∃ r, wh V10_0 (l, o, (k : Int), ()) = some (r, ()) ∧ wh V11_0 (l, o, (k : Int), ()) = some (r, ()) ∧ r.length ≤ 1048578 + o.length + f
  | 0, k, o, hf, ho => ⟨o, wh_stop (V10_end (by omega)), wh_stop (V11_end (by omega)), by omega⟩
  | f + 1, k, o, hf, ho => by
    rcases Nat.lt_or_ge k l.length with h | h
    · have hp := lng_pos (l.getD k z0)
      have ha := addm_len l k o
      obtain ⟨r, h1, h2, h3⟩ := maps_run hl f (k + lng (l.getD k z0)) (addm l k o) (by omega) (by omega)
      exact ⟨r, (wh_next (V10_in h hl ho)).trans h1, (wh_next (V11_in h hl ho)).trans h2, by omega⟩
    · exact ⟨o, wh_stop (V10_end h), wh_stop (V11_end h), by omega⟩
theorem maps_same {l : List In} (hl : l.length ≤ 1048576) : ∃ r, E10 (l, ()) = some r ∧ E11 (l, ()) = some r ∧ r.length ≤ 3000000 := by
  obtain ⟨r, h1, h2, h3⟩ := maps_run hl l.length 0 [] (by omega) (by simp)
  refine ⟨r, ?_, ?_, by simp at h3; omega⟩
  · show S10 F22 G22 F23 G23 F24 G24 W10_0 Q10_0 l = _
    unfold S10
    have e1 : W10_0 (l, [], 0, ()) = (r, ()) := whV_of (hd := hd10_0) (ys := ys10_0) h1
    have e2 : Q10_0 (l, [], 0, ()) = true := whK_of (hd := hd10_0) (ys := ys10_0) h1
    rw [e1, e2]
    dsimp only
    rw [sec_full (l := r) rfl, decide_eq_true (show 0 + r.length ≤ r.length by omega)]
    rfl
  · show S11 W11_2 Q11_2 W11_0 Q11_0 l = _
    unfold S11
    have e1 : W11_0 (l, [], 0, ()) = (r, ()) := whV_of (hd := hd11_0) (ys := ys11_0) h2
    have e2 : Q11_0 (l, [], 0, ()) = true := whK_of (hd := hd11_0) (ys := ys11_0) h2
    rw [e1, e2]
    dsimp only
    rw [sec_full (l := r) rfl, decide_eq_true (show 0 + r.length ≤ r.length by omega)]
    rfl
/-! ## One by one -/
theorem V9_in {r : List Int} {k : Nat} (hk : k < r.length) (hr : r.length ≤ 3000000) : V9_0 (r, r, (k : Int), ()) = some (.inl (r, r, ((k + 1 : Nat) : Int), ())) := by
  unfold V9_0 R9_0
  dsimp only
  have e1 : IntKind.wrap .i64 ((k : Int) + 1) = ((k + 1 : Nat) : Int) := by rw [wi64 (by omega)]; omega
  rw [e1, decide_eq_true (show (k : Int) < ((r.length : Nat) : Int) by omega), decide_eq_true (show (0 : Int) ≤ (k : Int) by omega), decide_eq_true (rfl : r.getD (Int.toNat (k : Int)) 0 = r.getD (Int.toNat (k : Int)) 0)]
  rfl
theorem V9_end {r : List Int} : V9_0 (r, r, ((r.length : Nat) : Int), ()) = some (.inr (.inl ())) := by
  unfold V9_0 R9_0
  dsimp only
  exact (bif_f (decide_eq_false (by omega))).trans rfl
theorem E9_eq {r : List Int} (hr : r.length ≤ 3000000) : E9 (r, r, ()) = some true := by
  show S9 W9_0 Q9_0 r r = _
  unfold S9
  have hw := (wh_steps (f := V9_0) (fun k => (r, r, (k : Int), ())) r.length (fun k hk => V9_in hk hr)).trans (wh_stop V9_end)
  have e1 : W9_0 (r, r, 0, ()) = .inl () := whV_of (hd := hd9_0) (ys := ys9_0) hw
  have e2 : Q9_0 (r, r, 0, ()) = true := whK_of (hd := hd9_0) (ys := ys9_0) hw
  rw [e1, e2, decide_eq_true (rfl : ((r.length : Nat) : Int) = ((r.length : Nat) : Int))]
  rfl
theorem F12_t : F12 () = true ∧ G12 () = true := ⟨rfl, rfl⟩
theorem E3_eq {l : List In} (hl : l.length ≤ 1048576) : E3 (l, ()) = some true := by
  show S3 F7 G7 F8 G8 F9 G9 F10 G10 F11 G11 F12 G12 l = _
  unfold S3
  obtain ⟨p, c, a1, a2⟩ := check_same l
  obtain ⟨r, b1, b2, b3⟩ := maps_same hl
  have f7 : F7 (l, ()) = (p, c, ()) ∧ G7 (l, ()) = true := ofE a1
  have f8 : F8 (l, ()) = (p, c, ()) ∧ G8 (l, ()) = true := ofE a2
  have f10 : F10 (l, ()) = r ∧ G10 (l, ()) = true := ofE b1
  have f11 : F11 (l, ()) = r ∧ G11 (l, ()) = true := ofE b2
  have f9 : F9 (r, r, ()) = true ∧ G9 (r, r, ()) = true := ofE (E9_eq b3)
  rw [f7.1, f7.2, f8.1, f8.2, f10.1, f10.2, f11.1, f11.2, f9.1, f9.2, F12_t.1, F12_t.2]
  dsimp only
  rw [decide_eq_true (rfl : p = p), decide_eq_true (rfl : c = c)]
  rfl
/-! ## The law -/
theorem shapeChecks_pure (x0 : List In) (w0 : WFv (.vsl (.pair (.int .i64) (.pair (.int .i64) (.pair (.int .i64) (.pair (.int .i64) (.pair (.int .i64) .unit)))))) x0) (s0 : SZ 1048576 (.vsl (.pair (.int .i64) (.pair (.int .i64) (.pair (.int .i64) (.pair (.int .i64) (.pair (.int .i64) .unit)))))) x0) :
    PureOK Try.prog 3 [⟨(.vsl (.pair (.int .i64) (.pair (.int .i64) (.pair (.int .i64) (.pair (.int .i64) (.pair (.int .i64) .unit)))))), x0⟩] ⟨.bool, true⟩ := by
  have h : F3 (x0, ()) = true ∧ G3 (x0, ()) = true := ofE (E3_eq s0.1)
  have := p3 (x0, ()) h.2
  rw [h.1] at this
  exact this
end Go.Proofs
