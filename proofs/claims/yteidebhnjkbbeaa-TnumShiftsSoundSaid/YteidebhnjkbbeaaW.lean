import Derived.Test.YteidebhnjkbbeaaBC
namespace Go.Proofs
open Go.GX
set_option linter.unusedVariables false
set_option linter.unusedSimpArgs false
theorem has_iff {t : Tn.den} {n : Int} : fHas t n = true ↔ ∀ i, bit t.2.1 i = true ∨ bit n i = bit t.1 i := by
  unfold fHas
  rw [decide_eq_true_iff, eq_bits (inR_iandn _ _) (inR_iandn _ _)]
  simp only [bit_iandn]
  refine forall_congr' fun i => ?_
  cases bit n i <;> cases bit t.1 i <;> cases bit t.2.1 i <;> simp
theorem in_iff {x y : Tn.den} (hx : InR x.2.1) : fIn x y = true ↔ (∀ i, bit y.2.1 i = true → bit x.2.1 i = true) ∧ fHas x y.1 = true := by
  unfold fIn
  have h1 : (ior .u64 x.2.1 y.2.1 = x.2.1) ↔ ∀ i, bit y.2.1 i = true → bit x.2.1 i = true := by
    rw [eq_bits (inR_ior _ _) hx]
    simp only [bit_ior]
    refine forall_congr' fun i => ?_
    cases bit x.2.1 i <;> cases bit y.2.1 i <;> simp
  by_cases c : ior .u64 x.2.1 y.2.1 = x.2.1
  · rw [decide_eq_true c, cond_true]; exact ⟨fun h => ⟨h1.1 c, h⟩, fun h => h.2⟩
  · rw [decide_eq_false c, cond_false]; exact ⟨fun h => (by cases h), fun h => absurd (h1.2 h.1) c⟩
theorem join_l {x y : Tn.den} {n : Int} (h : fHas x n = true) : fHas (fJoin x y) n = true := by
  rw [has_iff] at h ⊢
  intro i
  have h := h i
  unfold fJoin
  simp only [bit_iandn, bit_ior, bit_ixor]
  revert h
  cases bit x.1 i <;> cases bit y.1 i <;> cases bit x.2.1 i <;> cases bit y.2.1 i <;> cases bit n i <;> decide
theorem join_r {x y : Tn.den} {n : Int} (h : fHas y n = true) : fHas (fJoin x y) n = true := by
  rw [has_iff] at h ⊢
  intro i
  have h := h i
  unfold fJoin
  simp only [bit_iandn, bit_ior, bit_ixor]
  revert h
  cases bit x.1 i <;> cases bit y.1 i <;> cases bit x.2.1 i <;> cases bit y.2.1 i <;> cases bit n i <;> decide
theorem meet_both (x y : Tn.den) (n : Int) (hx : ∀ i, (bit x.1 i && bit x.2.1 i) = false) (hy : ∀ i, (bit y.1 i && bit y.2.1 i) = false) : (fHas x n && fHas y n) = ((fMeet x y).2.1 && fHas (fMeet x y).1 n) := by
  have h : (iandn .u64 (ixor .u64 x.1 y.1) (ior .u64 x.2.1 y.2.1) = 0) ↔ ∀ i, bit x.2.1 i = true ∨ bit y.2.1 i = true ∨ bit x.1 i = bit y.1 i := by
    rw [eq0_bits (inR_iandn _ _)]
    simp only [bit_iandn, bit_ior, bit_ixor]
    refine forall_congr' fun i => ?_
    cases bit x.1 i <;> cases bit y.1 i <;> cases bit x.2.1 i <;> cases bit y.2.1 i <;> simp
  by_cases c : iandn .u64 (ixor .u64 x.1 y.1) (ior .u64 x.2.1 y.2.1) = 0
  · have e : fMeet x y = ((iandn .u64 (ior .u64 x.1 y.1) (iand .u64 x.2.1 y.2.1), (iand .u64 x.2.1 y.2.1), ()), true, ()) := by
      unfold fMeet S17; rw [decide_eq_true c]; rfl
    rw [e]
    simp only [Bool.true_and]
    rw [Bool.eq_iff_iff, Bool.and_eq_true, has_iff, has_iff, has_iff, ← forall_and]
    have h := h.1 c
    refine forall_congr' fun i => ?_
    have h := h i
    have hx := hx i
    have hy := hy i
    simp only [bit_iandn, bit_ior, bit_iand]
    revert h hx hy
    cases bit x.1 i <;> cases bit y.1 i <;> cases bit x.2.1 i <;> cases bit y.2.1 i <;> cases bit n i <;> decide
  · have e : (fMeet x y).2.1 = false := by unfold fMeet S17; rw [decide_eq_false c]; rfl
    rw [e, Bool.false_and]
    cases hb : (fHas x n && fHas y n) with
    | false => rfl
    | true =>
      exfalso
      simp only [Bool.and_eq_true, has_iff] at hb
      refine c (h.2 fun i => ?_)
      have a := hb.1 i
      have b := hb.2 i
      revert a b
      cases bit x.1 i <;> cases bit y.1 i <;> cases bit x.2.1 i <;> cases bit y.2.1 i <;> cases bit n i <;> decide
theorem in_join (x y : Tn.den) (h1 : InR x.1) (h2 : InR x.2.1) : fIn (fJoin x y) x = true := by
  rw [in_iff (inR_ior _ _)]
  refine ⟨fun i h => ?_, ?_⟩
  · unfold fJoin; simp only [bit_ior]; rw [h]; simp
  · rw [has_iff]; intro i
    unfold fJoin
    simp only [bit_iandn, bit_ior, bit_ixor]
    cases bit x.1 i <;> cases bit y.1 i <;> cases bit x.2.1 i <;> cases bit y.2.1 i <;> decide
theorem bit_mask (k : Nat) (hk : k ≤ 64) (i : Nat) : bit ((2 ^ k - 1 : Nat) : Int) i = decide (i < k) := by
  unfold bit
  have hp : 2 ^ k ≤ 2 ^ 64 := Nat.pow_le_pow_right (by omega) hk
  have hp0 : 0 < 2 ^ k := Nat.pow_pos (by omega)
  rw [u_cast _ (by omega), Nat.testBit_two_pow_sub_one]
theorem in_all (x : Tn.den) (h : InR x.1) (h2 : InR x.2.1) : fIn (0, (18446744073709551615, ())) x = true := by
  have hb : ∀ i, bit 18446744073709551615 i = decide (i < 64) := fun i => bit_mask 64 (Nat.le_refl _) i
  rw [in_iff (by unfold InR; decide)]
  refine ⟨fun i hi => ?_, ?_⟩
  · show bit 18446744073709551615 i = true
    rw [hb]
    by_cases c : i < 64
    · simp [c]
    · rw [bit_hi _ (by omega)] at hi; cases hi
  · rw [has_iff]; intro i
    show bit 18446744073709551615 i = true ∨ _
    rw [hb]
    by_cases c : i < 64
    · simp [c]
    · right; rw [bit_hi _ (by omega)]; exact (bit0 i).symm
theorem has_of (lo hi z : Int) (h1 : InR lo) (h2 : InR hi) (h3 : lo ≤ z) (h4 : z ≤ hi) : fHas (fOf lo hi) z = true := by
  obtain ⟨k, hk, hl, hb, hm⟩ := mask_len lo hi
  have e : fOf lo hi = (iandn .u64 lo ((2 ^ k - 1 : Nat) : Int), ((2 ^ k - 1 : Nat) : Int), ()) := by
    unfold fOf fLen; rw [hl, Option.getD_some, hm]
  have hz : InR z := by unfold InR at *; omega
  rw [e, has_iff]
  intro i
  simp only [bit_iandn, bit_mask k hk]
  by_cases c : i < k
  · simp [c]
  · right
    simp only [c, decide_false, Bool.not_false, Bool.and_true]
    have hx : u (ixor .u64 lo hi) = u lo ^^^ u hi := by rw [ixor_n, u_cast _ (Nat.xor_lt_two_pow (u_lt _) (u_lt _))]
    have hlt : u lo ^^^ u hi < 2 ^ k := by rw [← hx]; exact hb.1
    have hd : u lo / 2 ^ k = u hi / 2 ^ k := by
      have h0 : (u lo ^^^ u hi) / 2 ^ k = 0 := Nat.div_eq_of_lt hlt
      rw [← Nat.shiftRight_eq_div_pow, Nat.shiftRight_xor_distrib, Nat.shiftRight_eq_div_pow, Nat.shiftRight_eq_div_pow] at h0
      have h9 := congrArg (· ^^^ (u hi / 2 ^ k)) h0
      simpa [Nat.xor_assoc] using h9
    have ulo : (u lo : Int) = lo := u_of h1
    have uhi : (u hi : Int) = hi := u_of h2
    have uz : (u z : Int) = z := u_of hz
    have d1 : u lo / 2 ^ k ≤ u z / 2 ^ k := Nat.div_le_div_right (by omega)
    have d2 : u z / 2 ^ k ≤ u hi / 2 ^ k := Nat.div_le_div_right (by omega)
    have hd2 : u z / 2 ^ k = u lo / 2 ^ k := by omega
    unfold bit
    have t : ∀ m : Nat, m.testBit i = (m / 2 ^ k).testBit (i - k) := fun m => by rw [Nat.testBit_div_two_pow]; congr 1; omega
    rw [t, t (u lo), hd2]
end Go.Proofs
