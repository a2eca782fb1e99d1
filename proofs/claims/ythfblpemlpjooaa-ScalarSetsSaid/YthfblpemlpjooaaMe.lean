import Derived.Test.YthfblpemlpjooaaMd
namespace Go.Proofs
open Go.GX
set_option linter.unusedVariables false
set_option linter.unusedSimpArgs false
/-! ## What is made tight has the same numbers -/
def mayT (t : Tn) : Prop := ∀ i, (bit t.1 i && bit t.2.1 i) = false
theorem may_iff {s : Sc} : may s = true ↔ mayT s.1 := by
  unfold may mayT
  rw [decide_eq_true_eq, eq0_bits (inR_iand _ _)]
  exact forall_congr' fun i => by rw [bit_iand]
theorem u_mono {a b : Int} (ha : InR a) (hb : InR b) : a ≤ b ↔ u a ≤ u b := by
  have h1 := u_of ha; have h2 := u_of hb
  omega
theorem has_ge {t : Tn} {n : Int} (ht : RT t) (hn : InR n) (hm : mayT t) (h : hasT t n = true) : t.1 ≤ n := by
  rw [u_mono ht.1 hn]
  have : u n = u t.1 ||| u n := by
    apply Nat.eq_of_testBit_eq
    intro i
    rw [Nat.testBit_or]
    show bit n i = (bit t.1 i || bit n i)
    have h1 := hm i
    cases hi : bit t.2.1 i
    · rw [hasT_iff.1 h i hi]; simp
    · rw [hi] at h1; simp at h1; rw [h1]; simp
  rw [this]; exact Nat.left_le_or
theorem has_le {t : Tn} {n : Int} (ht : RT t) (hn : InR n) (h : hasT t n = true) : n ≤ ior .u64 t.1 t.2.1 := by
  rw [u_mono hn (inR_ior _ _)]
  have : u (ior .u64 t.1 t.2.1) = u n ||| u (ior .u64 t.1 t.2.1) := by
    apply Nat.eq_of_testBit_eq
    intro i
    rw [Nat.testBit_or]
    show bit (ior .u64 t.1 t.2.1) i = (bit n i || bit (ior .u64 t.1 t.2.1) i)
    rw [bit_ior]
    cases hi : bit t.2.1 i
    · rw [hasT_iff.1 h i hi]; simp
    · simp
  rw [this]; exact Nat.left_le_or
theorem bit_mOf {lo hi : Int} {i : Nat} : bit (mOf lo hi) i = decide (i < len (u lo ^^^ u hi)) := bit_msk (len_le (xor_lt lo hi))
/-- numbers between two have the bits that the two share above -/
theorem of_has {lo hi n : Int} (hl : InR lo) (hh : InR hi) (hn : InR n) (h1 : lo ≤ n) (h2 : n ≤ hi) : hasT (ofF lo hi) n = true := by
  have g1 := (u_mono hl hn).1 h1
  have g2 := (u_mono hn hh).1 h2
  have hb := (BL_len (u lo ^^^ u hi)).1
  generalize hk : len (u lo ^^^ u hi) = k at hb
  have hq : u lo / 2 ^ k = u hi / 2 ^ k := by
    apply Nat.eq_of_testBit_eq
    intro i
    rw [Nat.testBit_div_two_pow, Nat.testBit_div_two_pow]
    have h0 : (u lo ^^^ u hi).testBit (i + k) = false := Nat.testBit_lt_two_pow (Nat.lt_of_lt_of_le hb (Nat.pow_le_pow_right (by omega) (by omega)))
    rw [Nat.testBit_xor] at h0
    cases h3 : (u lo).testBit (i + k) <;> cases h4 : (u hi).testBit (i + k) <;> simp_all
  have q1 : u lo / 2 ^ k ≤ u n / 2 ^ k := Nat.div_le_div_right g1
  have q2 : u n / 2 ^ k ≤ u hi / 2 ^ k := Nat.div_le_div_right g2
  have hq2 : u n / 2 ^ k = u lo / 2 ^ k := by omega
  refine hasT_iff.2 fun i hz => ?_
  have hz : bit (mOf lo hi) i = false := hz
  rw [bit_mOf, hk] at hz
  have hki : k ≤ i := by simpa using hz
  show bit n i = bit (iandn .u64 lo (mOf lo _)) i
  rw [bit_iandn, bit_mOf, hk, decide_eq_false (by omega : ¬ i < k)]
  have h5 := congrArg (fun x => x.testBit (i - k)) hq2
  simp only [Nat.testBit_div_two_pow] at h5
  rw [show i - k + k = i by omega] at h5
  show (u n).testBit i = ((u lo).testBit i && true)
  rw [h5, Bool.and_true]
theorem mayT_of (lo hi : Int) : mayT (ofF lo hi) := fun i => by
  show (bit (iandn .u64 lo (mOf lo hi)) i && bit (mOf lo hi) i) = false
  rw [bit_iandn]; cases bit (mOf lo hi) i <;> simp
theorem RT_of (lo hi : Int) : RT (ofF lo hi) := ⟨inR_iandn _ _, inR_msk (len_le (xor_lt lo hi))⟩
theorem metB_iff {a b : Tn} : metB a b = true ↔ ∀ i, bit a.2.1 i = false → bit b.2.1 i = false → bit a.1 i = bit b.1 i := by
  unfold metB
  rw [decide_eq_true_eq, eq0_bits (inR_iandn _ _)]
  refine forall_congr' fun i => ?_
  rw [bit_iandn, bit_ixor, bit_ior]
  cases bit a.2.1 i <;> cases bit b.2.1 i <;> cases bit a.1 i <;> cases bit b.1 i <;> simp
theorem met_of {a b : Tn} {n : Int} (h1 : hasT a n = true) (h2 : hasT b n = true) (ma : mayT a) (mb : mayT b) : metB a b = true ∧ hasT (metF a b) n = true := by
  rw [hasT_iff] at h1 h2
  refine ⟨metB_iff.2 fun i ha hb => by rw [← h1 i ha, h2 i hb], hasT_iff.2 fun i hi => ?_⟩
  have hi : bit (iand .u64 a.2.1 b.2.1) i = false := hi
  show bit n i = bit (iandn .u64 (ior .u64 a.1 b.1) (iand .u64 a.2.1 b.2.1)) i
  rw [bit_iandn, hi, bit_ior]
  rw [bit_iand] at hi
  have m1 := ma i; have m2 := mb i
  cases ha : bit a.2.1 i <;> cases hb : bit b.2.1 i <;> rw [ha] at m1 hi <;> rw [hb] at m2 hi
  · rw [← h1 i ha, ← h2 i hb]; simp
  · rw [← h1 i ha]; simp at m2; rw [m2]; simp
  · rw [← h2 i hb]; simp at m1; rw [m1]; simp
  · cases hi
theorem of_met {a b : Tn} {n : Int} (h0 : metB a b = true) (h : hasT (metF a b) n = true) (ma : mayT a) (mb : mayT b) : hasT a n = true := by
  rw [hasT_iff] at h
  refine hasT_iff.2 fun i ha => ?_
  have h1 : bit (iand .u64 a.2.1 b.2.1) i = false := by rw [bit_iand, ha]; rfl
  have h2 : bit n i = bit (iandn .u64 (ior .u64 a.1 b.1) (iand .u64 a.2.1 b.2.1)) i := h i h1
  rw [bit_iandn, h1, bit_ior] at h2
  rw [h2]
  have m2 := mb i
  cases hb : bit b.2.1 i <;> rw [hb] at m2
  · rw [← metB_iff.1 h0 i ha hb]; simp
  · simp at m2; rw [m2]; simp
theorem mayT_met {a b : Tn} : mayT (metF a b) := fun i => by
  show (bit (iandn .u64 (ior .u64 a.1 b.1) (iand .u64 a.2.1 b.2.1)) i && bit (iand .u64 a.2.1 b.2.1) i) = false
  rw [bit_iandn]; cases bit (iand .u64 a.2.1 b.2.1) i <;> simp
theorem mn_le (s : Sc) {n : Int} : mnF s ≤ n ↔ s.1.1 ≤ n ∧ s.2.1 ≤ n := by unfold mnF; split <;> omega
theorem le_mx (s : Sc) {n : Int} : n ≤ mxF s ↔ n ≤ ior .u64 s.1.1 s.1.2.1 ∧ n ≤ s.2.2.1 := by unfold mxF; split <;> omega
theorem inR_mn {s : Sc} (h : RS s) : InR (mnF s) := by
  unfold mnF; split
  · exact h.1.1
  · exact h.2.1
theorem inR_mx {s : Sc} (h : RS s) : InR (mxF s) := by
  unfold mxF; split
  · exact inR_ior _ _
  · exact h.2.2
theorem keep1 {s : Sc} {n : Int} (hs : RS s) (hm : mayT s.1) (hn : InR n) : hasS s n = true ↔ ∃ t, rnd s = some t ∧ hasS t n = true := by
  unfold rnd
  constructor
  · intro h
    obtain ⟨h1, h2, h3⟩ := hasS_iff.1 h
    have g1 := has_ge hs.1 hn hm h3
    have g2 := has_le hs.1 hn h3
    have k1 := (mn_le s).2 ⟨g1, h1⟩
    have k2 := (le_mx s).2 ⟨g2, h2⟩
    obtain ⟨q1, q2⟩ := met_of h3 (of_has (inR_mn hs) (inR_mx hs) hn k1 k2) hm (mayT_of _ _)
    rw [if_pos (by omega), if_pos q1]
    exact ⟨_, rfl, hasS_iff.2 ⟨k1, k2, q2⟩⟩
  · rintro ⟨t, ht, h⟩
    split at ht
    · split at ht
      · rename_i q1
        cases ht
        obtain ⟨h1, h2, h3⟩ := hasS_iff.1 h
        exact hasS_iff.2 ⟨((mn_le s).1 h1).2, ((le_mx s).1 h2).2, of_met q1 h3 hm (mayT_of _ _)⟩
      · cases ht
    · cases ht
theorem may_rnd {s t : Sc} (h : rnd s = some t) : mayT t.1 := by
  unfold rnd at h
  split at h
  · split at h
    · cases h; exact mayT_met
    · cases h
  · cases h
theorem keeps {n : Int} (hn : InR n) : ∀ (k : Nat) {s : Sc}, RS s → mayT s.1 → (hasS s n = true ↔ ∃ t, rnds k s = some t ∧ hasS t n = true)
  | 0, s, hs, hm => ⟨fun h => ⟨s, rfl, h⟩, fun ⟨t, ht, h⟩ => by cases ht; exact h⟩
  | k + 1, s, hs, hm => by
    rw [keep1 hs hm hn]
    constructor
    · rintro ⟨s', h1, h2⟩
      obtain ⟨t, h3, h4⟩ := (keeps hn k (RS_rnd hs h1) (may_rnd h1)).1 h2
      exact ⟨t, by rw [rnds, h1]; exact h3, h4⟩
    · rintro ⟨t, h1, h2⟩
      rw [rnds, Option.bind_eq_some_iff] at h1
      obtain ⟨s', h3, h4⟩ := h1
      exact ⟨s', h3, (keeps hn k (RS_rnd hs h3) (may_rnd h3)).2 ⟨t, h4, h2⟩⟩
theorem keep {s : Sc} {n : Int} (hs : RS s) (hm : may s = true) (hn : InR n) : hasS s n = true ↔ ∃ t, tgt s = some t ∧ hasS t n = true := by
  unfold tgt
  rw [if_pos hm]
  exact keeps hn 3 hs (may_iff.1 hm)
/-- the law's own way to say it -/
theorem keepB {s : Sc} {n : Int} (hs : RS s) (hm : may s = true) (hn : InR n) : hasS s n = ((tgtR (tgt s)).2.1 && hasS (tgtR (tgt s)).1 n) := by
  rw [Bool.eq_iff_iff, keep hs hm hn, Bool.and_eq_true]
  cases h : tgt s with
  | none => simp [tgtR]
  | some t => simp [tgtR]
end Go.Proofs
