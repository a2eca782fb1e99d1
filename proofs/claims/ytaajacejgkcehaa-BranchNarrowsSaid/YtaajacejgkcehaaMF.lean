import Derived.Test.YtaajacejgkcehaaME
namespace Go.Proofs
open Go.GX
set_option linter.unusedVariables false
set_option linter.unusedSimpArgs false
/-! ## What is told is true -/
def Snd (r : R3) (x y : Int) : Prop := ∃ s t, r = (s, t, true, ()) ∧ hasS s x = true ∧ hasS t y = true
theorem knw_snd {a b : Sc} {x y : Int} (ra : RS a) (rb : RS b) (ma : may a = true) (mb : may b = true) (hx : hasS a x = true) (hy : hasS b y = true) : Snd (knw a b true) x y := by
  obtain ⟨s, hs, h1⟩ := (keep ra ma (has_inR ra hx)).1 hx
  obtain ⟨t, ht, h2⟩ := (keep rb mb (has_inR rb hy)).1 hy
  exact ⟨s, t, by unfold knw; rw [hs, ht]; rfl, h1, h2⟩
theorem swp_snd {r : R3} {x y : Int} (h : Snd r y x) : Snd (swp r) x y := by
  obtain ⟨s, t, rfl, h1, h2⟩ := h
  exact ⟨t, s, rfl, h2, h1⟩
theorem hasS_mk {s : Sc} {n : Int} (h1 : s.2.1 ≤ n) (h2 : n ≤ s.2.2.1) (h3 : hasT s.1 n = true) : hasS s n = true := hasS_iff.2 ⟨h1, h2, h3⟩
theorem may_t {s t : Sc} (h : s.1 = t.1) : may s = may t := by unfold may; rw [h]
theorem abv_snd {a b : Sc} {x y m : Int} (ra : RS a) (rb : RS b) (ma : may a = true) (mb : may b = true) (hx : hasS a x = true) (hy : hasS b y = true) (hm : m = 0 ∨ m = 1) (h : y + m ≤ x) :
    Snd (knw (hiA a b m) (loB a b m) true) x y := by
  obtain ⟨a1, a2, a3⟩ := hasS_iff.1 hx
  obtain ⟨b1, b2, b3⟩ := hasS_iff.1 hy
  have ix := has_inR ra hx
  have iy := has_inR rb hy
  obtain ⟨⟨ra1, ra2⟩, ra3, ra4⟩ := ra
  obtain ⟨⟨rb1, rb2⟩, rb3, rb4⟩ := rb
  unfold InR at ix iy ra3 ra4 rb3 rb4
  have w1 : IntKind.wrap .u64 (b.2.1 + m) = b.2.1 + m := wu64 (by omega)
  have w2 : IntKind.wrap .u64 (a.2.2.1 - m) = a.2.2.1 - m := wu64 (by omega)
  refine knw_snd ⟨⟨ra1, ra2⟩, ?_, ra4⟩ ⟨⟨rb1, rb2⟩, rb3, ?_⟩ ma mb (hasS_mk ?_ a2 a3) (hasS_mk b1 ?_ b3)
  · show InR (if IntKind.wrap .u64 (b.2.1 + m) > a.2.1 then IntKind.wrap .u64 (b.2.1 + m) else a.2.1)
    unfold InR; rw [w1]; split <;> omega
  · show InR (if IntKind.wrap .u64 (a.2.2.1 - m) < b.2.2.1 then IntKind.wrap .u64 (a.2.2.1 - m) else b.2.2.1)
    unfold InR; rw [w2]; split <;> omega
  · show (if IntKind.wrap .u64 (b.2.1 + m) > a.2.1 then IntKind.wrap .u64 (b.2.1 + m) else a.2.1) ≤ x
    rw [w1]; split <;> omega
  · show y ≤ (if IntKind.wrap .u64 (a.2.2.1 - m) < b.2.2.1 then IntKind.wrap .u64 (a.2.2.1 - m) else b.2.2.1)
    rw [w2]; split <;> omega
theorem abv_t {a b : Sc} {x y : Int} (ra : RS a) (rb : RS b) (ma : may a = true) (mb : may b = true) (hx : hasS a x = true) (hy : hasS b y = true) (h : y < x) : Snd (abv a b true) x y := by
  have a2 := (hasS_iff.1 hx).2.1
  have b1 := (hasS_iff.1 hy).1
  have ix := has_inR ra hx
  have iy := has_inR rb hy
  unfold InR at ix iy
  unfold abv
  rw [decide_eq_false (show ¬ b.2.1 = 18446744073709551615 by omega), decide_eq_false (show ¬ a.2.2.1 = 0 by omega)]
  exact abv_snd ra rb ma mb hx hy (.inr rfl) (by omega)
theorem abv_f {a b : Sc} {x y : Int} (ra : RS a) (rb : RS b) (ma : may a = true) (mb : may b = true) (hx : hasS a x = true) (hy : hasS b y = true) (h : y ≤ x) : Snd (abv a b false) x y :=
  abv_snd ra rb ma mb hx hy (.inl rfl) (by omega)
theorem mtt_snd {a b : Sc} {x : Int} (ra : RS a) (rb : RS b) (ma : may a = true) (mb : may b = true) (hx : hasS a x = true) (hy : hasS b x = true) : Snd (mtt a b) x x := by
  obtain ⟨a1, a2, a3⟩ := hasS_iff.1 hx
  obtain ⟨b1, b2, b3⟩ := hasS_iff.1 hy
  obtain ⟨m1, m2⟩ := met_of a3 b3 (may_iff.1 ma) (may_iff.1 mb)
  unfold mtt
  rw [m1]
  have r : RS (mtS a b) := by
    refine ⟨⟨inR_iandn _ _, inR_iand _ _⟩, ?_, ?_⟩
    · show InR (if b.2.1 > a.2.1 then b.2.1 else a.2.1)
      split; exact rb.2.1; exact ra.2.1
    · show InR (if b.2.2.1 < a.2.2.1 then b.2.2.1 else a.2.2.1)
      split; exact rb.2.2; exact ra.2.2
  have h : hasS (mtS a b) x = true := by
    refine hasS_mk ?_ ?_ m2
    · show (if b.2.1 > a.2.1 then b.2.1 else a.2.1) ≤ x
      split <;> omega
    · show x ≤ (if b.2.2.1 < a.2.2.1 then b.2.2.1 else a.2.2.1)
      split <;> omega
  exact knw_snd r r (may_iff.2 mayT_met) (may_iff.2 mayT_met) h h
/-- a scalar of one number -/
theorem onl_val {b : Sc} {y : Int} (rb : RS b) (hy : hasS b y = true) (h : (onl b).2.1 = true) : (onl b).1 = y := by
  unfold onl at h ⊢
  split at h
  · rename_i h0
    rw [if_pos h0]
    refine bits_eq rb.1.1 (has_inR rb hy) fun i => ?_
    have := (hasT_iff.1 (hasS_iff.1 hy).2.2) i (by rw [h0]; exact bit0 i)
    exact this.symm
  · cases h
theorem onl_mask {b : Sc} (h : (onl b).2.1 = true) : b.1.2.1 = 0 := by
  unfold onl at h
  split at h
  · assumption
  · cases h
theorem edg_snd {a : Sc} {x y : Int} (ra : RS a) (ma : may a = true) (hx : hasS a x = true) (hy : InR y) (hne : x ≠ y) : ∃ s, edg a y = some s ∧ RS s ∧ may s = true ∧ hasS s x = true := by
  obtain ⟨a1, a2, a3⟩ := hasS_iff.1 hx
  have ix := has_inR ra hx
  obtain ⟨ra1, ra3, ra4⟩ := ra
  unfold InR at ix hy ra3 ra4
  have k1 : ∃ t, edgL a y = some t ∧ t.1 = a.1 ∧ t.2.2 = a.2.2 ∧ InR t.2.1 ∧ t.2.1 ≤ x := by
    unfold edgL
    by_cases h : a.2.1 = y
    · rw [if_pos h, if_neg (show ¬ y = 18446744073709551615 by omega)]
      have w1 : IntKind.wrap .u64 (a.2.1 + 1) = a.2.1 + 1 := wu64 (by omega)
      refine ⟨_, rfl, rfl, rfl, ?_, ?_⟩
      · show InR (IntKind.wrap .u64 (a.2.1 + 1)); exact inR_wrap _
      · show IntKind.wrap .u64 (a.2.1 + 1) ≤ x; rw [w1]; omega
    · rw [if_neg h]; exact ⟨a, rfl, rfl, rfl, ra3, a1⟩
  obtain ⟨t, ht, t1, t2, t3, t4⟩ := k1
  have t5 : t.2.2.1 = a.2.2.1 := by rw [t2]
  unfold edg
  rw [ht]
  show ∃ s, edgH t y = some s ∧ _
  unfold edgH
  by_cases h : t.2.2.1 = y
  · rw [if_pos h, if_neg (show ¬ y = 0 by omega)]
    have w1 : IntKind.wrap .u64 (t.2.2.1 - 1) = t.2.2.1 - 1 := wu64 (by omega)
    refine ⟨_, rfl, ⟨by rw [show (t.1, t.2.1, IntKind.wrap .u64 (t.2.2.1 - 1), t.2.2.2).1 = a.1 from t1]; exact ra1, t3, inR_wrap _⟩, (may_t (t := a) t1).trans ma, hasS_mk t4 ?_ ?_⟩
    · show x ≤ IntKind.wrap .u64 (t.2.2.1 - 1); rw [w1]; omega
    · show hasT t.1 x = true; rw [t1]; exact a3
  · rw [if_neg h]
    exact ⟨t, rfl, ⟨by rw [t1]; exact ra1, t3, by rw [t5]; exact ra4⟩, (may_t t1).trans ma, hasS_mk t4 (by rw [t5]; exact a2) (by rw [t1]; exact a3)⟩
theorem dif_snd {a b : Sc} {x y : Int} (ra : RS a) (rb : RS b) (ma : may a = true) (mb : may b = true) (hx : hasS a x = true) (hy : hasS b y = true) (hne : x ≠ y) : Snd (dif a b) x y := by
  unfold dif
  have h0 : ((onl a).2.1 && (onl b).2.1 && decide ((onl a).1 = (onl b).1)) = false := by
    cases h1 : (onl a).2.1
    · rfl
    · cases h2 : (onl b).2.1
      · rfl
      · rw [onl_val ra hx h1, onl_val rb hy h2, decide_eq_false hne]; rfl
  rw [h0]
  have e1 : ∃ s, (bif (onl b).2.1 then edg a (onl b).1 else some a) = some s ∧ RS s ∧ may s = true ∧ hasS s x = true := by
    cases h2 : (onl b).2.1
    · exact ⟨a, rfl, ra, ma, hx⟩
    · rw [onl_val rb hy h2]; exact edg_snd ra ma hx (has_inR rb hy) hne
  have e2 : ∃ s, (bif (onl a).2.1 then edg b (onl a).1 else some b) = some s ∧ RS s ∧ may s = true ∧ hasS s y = true := by
    cases h2 : (onl a).2.1
    · exact ⟨b, rfl, rb, mb, hy⟩
    · rw [onl_val ra hx h2]; exact edg_snd rb mb hy (has_inR ra hx) (Ne.symm hne)
  obtain ⟨s, h1, s1, s2, s3⟩ := e1
  obtain ⟨t, h2, t1, t2, t3⟩ := e2
  rw [h1, h2]
  exact knw_snd s1 t1 s2 t2 s3 t3
/-- one bit -/
theorem pow2_bit {c : Int} (hc : InR c) (h : pow2 c = true) {i j : Nat} (hi : bit c i = true) (hj : bit c j = true) : i = j := by
  unfold pow2 at h
  simp only [Bool.and_eq_true, Bool.not_eq_true', decide_eq_false_iff_not, decide_eq_true_eq] at h
  obtain ⟨h0, h1⟩ := h
  have hu := u_of hc
  have w1 : IntKind.wrap .u64 (c - 1) = ((u c - 1 : Nat) : Int) := by rw [wu64 (by unfold InR at hc; omega)]; unfold InR at hc; omega
  rw [w1, iand_n, u_cast _ (by have := u_lt c; omega)] at h1
  have h1 : u c &&& (u c - 1) = 0 := by exact_mod_cast h1
  have hp : u c = 2 ^ Nat.log2 (u c) := by
    have hne : u c ≠ 0 := by unfold InR at hc; omega
    have l1 := Nat.log2_self_le hne
    have l2 : u c < 2 ^ (Nat.log2 (u c) + 1) := Nat.lt_log2_self
    rcases Nat.lt_or_ge (2 ^ Nat.log2 (u c)) (u c) with hlt | hge
    · exfalso
      have b1 : (u c).testBit (Nat.log2 (u c)) = true := by
        rw [Nat.testBit_eq_decide_div_mod_eq]
        rw [Nat.pow_succ] at l2
        have : u c / 2 ^ Nat.log2 (u c) = 1 := by
          apply Nat.div_eq_of_lt_le <;> omega
        rw [this]; rfl
      have b2 : (u c - 1).testBit (Nat.log2 (u c)) = true := by
        rw [Nat.testBit_eq_decide_div_mod_eq]
        rw [Nat.pow_succ] at l2
        have : (u c - 1) / 2 ^ Nat.log2 (u c) = 1 := by
          apply Nat.div_eq_of_lt_le <;> omega
        rw [this]; rfl
      have := congrArg (fun n => n.testBit (Nat.log2 (u c))) h1
      simp [b1, b2] at this
    · omega
  unfold bit at hi hj
  rw [hp, Nat.testBit_two_pow] at hi hj
  simp only [decide_eq_true_eq] at hi hj
  omega
theorem ne0_bit {a : Int} (ha : InR a) (h : ¬ a = 0) : ∃ i, bit a i = true := by
  apply Classical.byContradiction
  intro hn
  apply h
  rw [eq0_bits ha]
  intro i
  cases hb : bit a i
  · rfl
  · exact absurd ⟨i, hb⟩ hn
theorem shr_snd {a b : Sc} {x y : Int} (ra : RS a) (rb : RS b) (ma : may a = true) (mb : may b = true) (hx : hasS a x = true) (hy : hasS b y = true) (h : ¬ iand .u64 x y = 0) : Snd (shr a b) x y := by
  obtain ⟨i, hi⟩ := ne0_bit (inR_iand _ _) h
  rw [bit_iand, Bool.and_eq_true] at hi
  obtain ⟨a1, a2, a3⟩ := hasS_iff.1 hx
  obtain ⟨b1, b2, b3⟩ := hasS_iff.1 hy
  have ix := has_inR ra hx
  have iy := has_inR rb hy
  unfold shr
  have h0 : decide (iand .u64 (ior .u64 a.1.1 a.1.2.1) (ior .u64 b.1.1 b.1.2.1) = 0) = false := by
    apply decide_eq_false
    intro e
    have := (eq0_bits (inR_iand _ _)).1 e i
    rw [bit_iand, bit_ior, bit_ior] at this
    cases ha : bit a.1.2.1 i
    · cases hb : bit b.1.2.1 i
      · rw [← hasT_iff.1 a3 i ha, ← hasT_iff.1 b3 i hb, hi.1, hi.2] at this; simp at this
      · rw [← hasT_iff.1 a3 i ha, hi.1, hb] at this; simp at this
    · cases hb : bit b.1.2.1 i
      · rw [← hasT_iff.1 b3 i hb, hi.2, ha] at this; simp at this
      · rw [ha, hb] at this; simp at this
  rw [h0]
  cases h1 : ((onl b).2.1 && pow2 (onl b).1)
  · exact knw_snd ra rb ma mb hx hy
  · obtain ⟨h2, h3⟩ := Bool.and_eq_true_iff.1 h1
    have e := onl_val rb hy h2
    rw [e] at h3 ⊢
    refine knw_snd ⟨⟨inR_ior _ _, inR_iandn _ _⟩, ra.2⟩ rb (may_iff.2 fun k => ?_) mb (hasS_mk a1 a2 (hasT_iff.2 fun k hk => ?_)) hy
    · show (bit (ior .u64 a.1.1 y) k && bit (iandn .u64 a.1.2.1 y) k) = false
      rw [bit_ior, bit_iandn]
      have := may_iff.1 ma k
      cases h4 : bit a.1.1 k <;> cases h5 : bit a.1.2.1 k <;> cases h6 : bit y k <;> simp_all
    · show bit x k = bit (ior .u64 a.1.1 y) k
      have hk : bit (iandn .u64 a.1.2.1 y) k = false := hk
      rw [bit_iandn] at hk
      rw [bit_ior]
      cases h6 : bit y k
      · rw [h6] at hk
        rw [hasT_iff.1 a3 k (by simpa using hk)]; simp
      · have := pow2_bit iy h3 hi.2 h6
        subst this
        rw [hi.1]; simp
theorem nsh_snd {a b : Sc} {x y : Int} (ra : RS a) (rb : RS b) (ma : may a = true) (mb : may b = true) (hx : hasS a x = true) (hy : hasS b y = true) (h : iand .u64 x y = 0) : Snd (nsh a b) x y := by
  have hz : ∀ i, (bit x i && bit y i) = false := fun i => by rw [← bit_iand]; exact (eq0_bits (inR_iand _ _)).1 h i
  obtain ⟨a1, a2, a3⟩ := hasS_iff.1 hx
  obtain ⟨b1, b2, b3⟩ := hasS_iff.1 hy
  have vx : ∀ i, bit a.1.1 i = true → bit x i = true := fun i hi => by
    have := may_iff.1 ma i
    rw [hi] at this
    rw [hasT_iff.1 a3 i (by simpa using this), hi]
  have vy : ∀ i, bit b.1.1 i = true → bit y i = true := fun i hi => by
    have := may_iff.1 mb i
    rw [hi] at this
    rw [hasT_iff.1 b3 i (by simpa using this), hi]
  unfold nsh
  have h0 : decide (iand .u64 a.1.1 b.1.1 = 0) = true := by
    apply decide_eq_true
    rw [eq0_bits (inR_iand _ _)]
    intro i
    rw [bit_iand]
    cases h1 : bit a.1.1 i
    · rfl
    · cases h2 : bit b.1.1 i
      · rfl
      · have := hz i; rw [vx i h1, vy i h2] at this; cases this
  rw [h0]
  cases h2 : (onl b).2.1
  · exact knw_snd ra rb ma mb hx hy
  · have e := onl_val rb hy h2
    rw [e]
    refine knw_snd ⟨⟨ra.1.1, inR_iandn _ _⟩, ra.2⟩ rb (may_iff.2 fun k => ?_) mb (hasS_mk a1 a2 (hasT_iff.2 fun k hk => ?_)) hy
    · show (bit a.1.1 k && bit (iandn .u64 a.1.2.1 y) k) = false
      rw [bit_iandn]
      have := may_iff.1 ma k
      cases h4 : bit a.1.1 k <;> cases h5 : bit a.1.2.1 k <;> cases h6 : bit y k <;> simp_all
    · show bit x k = bit a.1.1 k
      have hk : bit (iandn .u64 a.1.2.1 y) k = false := hk
      rw [bit_iandn] at hk
      cases h6 : bit y k
      · rw [h6] at hk
        exact hasT_iff.1 a3 k (by simpa using hk)
      · have hzk := hz k
        rw [h6] at hzk
        have hx0 : bit x k = false := by simpa using hzk
        rw [hx0]
        cases h4 : bit a.1.1 k
        · rfl
        · rw [vx k h4] at hx0; cases hx0
end Go.Proofs
