import Derived.Test.YthfblpemlpjooaaMc
namespace Go.Proofs
open Go.GX
set_option linter.unusedVariables false
set_option linter.unusedSimpArgs false
/-! ## Which numbers a scalar has -/
def hasT (t : Tn) (n : Int) : Bool := decide (iandn .u64 n t.2.1 = iandn .u64 t.1 t.2.1)
theorem hasT_iff {t : Tn} {n : Int} : hasT t n = true ↔ ∀ i, bit t.2.1 i = false → bit n i = bit t.1 i := by
  unfold hasT
  rw [decide_eq_true_eq, eq_bits (inR_iandn _ _) (inR_iandn _ _)]
  constructor
  · intro h i hi
    have := h i
    rw [bit_iandn, bit_iandn, hi] at this
    simpa using this
  · intro h i
    rw [bit_iandn, bit_iandn]
    cases hi : bit t.2.1 i
    · rw [h i hi]
    · simp
theorem hasT' {t : Tn} {n : Int} : decide (iandn .u64 (ixor .u64 n t.1) t.2.1 = 0) = hasT t n := by
  rw [Bool.eq_iff_iff, hasT_iff, decide_eq_true_eq, eq0_bits (inR_iandn _ _)]
  constructor
  · intro h i hi
    have := h i
    rw [bit_iandn, bit_ixor, hi] at this
    cases hx : bit n i <;> cases hy : bit t.1 i <;> simp_all
  · intro h i
    rw [bit_iandn, bit_ixor]
    cases hi : bit t.2.1 i
    · rw [h i hi]; simp
    · simp
def hasS (s : Sc) (n : Int) : Bool := decide (s.2.1 ≤ n) && (decide (n ≤ s.2.2.1) && hasT s.1 n)
theorem hasS_iff {s : Sc} {n : Int} : hasS s n = true ↔ s.2.1 ≤ n ∧ n ≤ s.2.2.1 ∧ hasT s.1 n = true := by
  unfold hasS; simp only [Bool.and_eq_true, decide_eq_true_eq]
theorem F25_eq (t : Tn) (n : Int) : F25 (t, n, ()) = hasT t n ∧ G25 (t, n, ()) = true := ⟨rfl, rfl⟩
theorem F36_eq (t : Tn) (n : Int) : F36 (t, n, ()) = hasT t n ∧ G36 (t, n, ()) = true := ⟨hasT', rfl⟩
theorem E9_eq (s : Sc) (n : Int) : E9 (s, n, ()) = some (hasS s n) := by
  show S9 F25 G25 s n = _
  unfold S9 hasS
  rw [(F25_eq _ _).1, (F25_eq _ _).2]
  cases decide (s.2.1 ≤ n) <;> cases decide (n ≤ s.2.2.1) <;> rfl
theorem E19_eq (s : Sc) (n : Int) : E19 (s, n, ()) = some (hasS s n) := by
  show S19 F36 G36 s n = _
  unfold S19 hasS
  rw [(F36_eq _ _).1, (F36_eq _ _).2]
  rw [show decide (n ≥ s.2.1) = decide (s.2.1 ≤ n) from rfl]
  cases decide (s.2.1 ≤ n) <;> cases decide (n ≤ s.2.2.1) <;> cases hasT s.1 n <;> rfl
theorem F9_eq (s : Sc) (n : Int) : F9 (s, n, ()) = hasS s n ∧ G9 (s, n, ()) = true := ofE (E9_eq s n)
theorem F19_eq (s : Sc) (n : Int) : F19 (s, n, ()) = hasS s n ∧ G19 (s, n, ()) = true := ofE (E19_eq s n)
/-! ## in range -/
theorem RS_rnd {s s' : Sc} (h : RS s) (hr : rnd s = some s') : RS s' := by
  unfold rnd at hr
  split at hr
  · split at hr
    · cases hr
      refine ⟨⟨inR_iandn _ _, inR_iand _ _⟩, ?_, ?_⟩
      · show InR (mnF s); unfold mnF; split
        · exact h.1.1
        · exact h.2.1
      · show InR (mxF s); unfold mxF; split
        · exact inR_ior _ _
        · exact h.2.2
    · cases hr
  · cases hr
theorem RS_rnds {n : Nat} {s t : Sc} (h : RS s) (hr : rnds n s = some t) : RS t := by
  induction n generalizing s with
  | zero => cases hr; exact h
  | succ n ih =>
    rw [rnds, Option.bind_eq_some_iff] at hr
    obtain ⟨s', h1, h2⟩ := hr
    exact ih (RS_rnd h h1) h2
theorem RS_tgt {s t : Sc} (h : RS s) (hr : tgt s = some t) : RS t := by
  unfold tgt at hr
  split at hr
  · exact RS_rnds h hr
  · cases hr
theorem RS_cns {v : Int} (h : InR v) : RS (cns v) := ⟨⟨h, inR0⟩, h, h⟩
theorem RS_prep {s : Sc} (h : RS s) : RS (prep s) := by
  unfold prep; split
  · exact ⟨⟨inR_iandn _ _, h.1.2⟩, h.2.2, h.2.1⟩
  · exact ⟨⟨inR_iandn _ _, h.1.2⟩, h.2.1, h.2.2⟩
theorem RS_wide {s : Sc} (h : RS s) : RS (wideF s) := by
  unfold wideF
  split
  · rename_i t ht
    split
    · exact RS_tgt (RS_prep h) ht
    · exact RS_cns (inR_iandn _ _)
  · exact RS_cns (inR_iandn _ _)
/-! ## In -/
def inT (a b : Tn) : Bool := decide (ior .u64 a.2.1 b.2.1 = a.2.1) && hasT a b.1
theorem E37_eq (a b : Tn) : E37 (a, b, ()) = some (inT a b) := by
  show S37 F25 G25 a b = _
  unfold S37 inT
  rw [(F25_eq _ _).1, (F25_eq _ _).2]
  cases decide (ior .u64 a.2.1 b.2.1 = a.2.1) <;> rfl
theorem inT_mask {a b : Tn} (ha : InR a.2.1) : decide (iandn .u64 b.2.1 a.2.1 = 0) = decide (ior .u64 a.2.1 b.2.1 = a.2.1) := by
  rw [decide_eq_decide, eq0_bits (inR_iandn _ _), eq_bits (inR_ior _ _) ha]
  constructor
  · intro h i
    have := h i
    rw [bit_iandn] at this
    rw [bit_ior]
    cases hx : bit a.2.1 i <;> cases hy : bit b.2.1 i <;> simp_all
  · intro h i
    have := h i
    rw [bit_ior] at this
    rw [bit_iandn]
    cases hx : bit a.2.1 i <;> cases hy : bit b.2.1 i <;> simp_all
theorem ixor_comm (a b : Int) : ixor .u64 a b = ixor .u64 b a := by rw [ixor_n, ixor_n, Nat.xor_comm]
theorem E38_eq (a b : Tn) (ha : InR a.2.1) : E38 (a, b, ()) = some (inT a b) := by
  show S38 a b = _
  unfold S38 inT
  rw [inT_mask ha, ixor_comm, hasT']
  cases decide (ior .u64 a.2.1 b.2.1 = a.2.1) <;> rfl
theorem F37_eq (a b : Tn) : F37 (a, b, ()) = inT a b ∧ G37 (a, b, ()) = true := ofE (E37_eq a b)
theorem F38_eq (a b : Tn) (ha : InR a.2.1) : F38 (a, b, ()) = inT a b ∧ G38 (a, b, ()) = true := ofE (E38_eq a b ha)
def inS (a b : Sc) : Bool := decide (a.2.1 ≤ b.2.1) && (decide (a.2.2.1 ≥ b.2.2.1) && inT a.1 b.1)
theorem E20_eq (a b : Sc) : E20 (a, b, ()) = some (inS a b) := by
  show S20 F37 G37 a b = _
  unfold S20 inS
  rw [(F37_eq _ _).1, (F37_eq _ _).2]
  cases decide (a.2.1 ≤ b.2.1) <;> cases decide (a.2.2.1 ≥ b.2.2.1) <;> rfl
theorem E21_eq (a b : Sc) (ha : InR a.1.2.1) : E21 (a, b, ()) = some (inS a b) := by
  show S21 F38 G38 a b = _
  unfold S21 inS
  rw [(F38_eq _ _ ha).1, (F38_eq _ _ ha).2, show decide (b.2.2.1 ≤ a.2.2.1) = decide (a.2.2.1 ≥ b.2.2.1) from rfl]
  cases decide (a.2.1 ≤ b.2.1) <;> cases decide (a.2.2.1 ≥ b.2.2.1) <;> cases inT a.1 b.1 <;> rfl
theorem F20_eq (a b : Sc) : F20 (a, b, ()) = inS a b ∧ G20 (a, b, ()) = true := ofE (E20_eq a b)
theorem F21_eq (a b : Sc) (ha : InR a.1.2.1) : F21 (a, b, ()) = inS a b ∧ G21 (a, b, ()) = true := ofE (E21_eq a b ha)
theorem inS_self {a : Sc} (h : RS a) : inS a a = true := by
  unfold inS inT
  have : hasT a.1 a.1.1 = true := hasT_iff.2 fun i _ => rfl
  rw [this]
  have h2 : ior .u64 a.1.2.1 a.1.2.1 = a.1.2.1 := bits_eq (inR_ior _ _) h.1.2 (fun i => by rw [bit_ior, Bool.or_self])
  simp [h2]
def unk : Sc := ((0, 18446744073709551615, ()), 0, 18446744073709551615, ())
theorem F22_eq : F22 () = unk ∧ G22 () = true := by
  have h39 : F39 () = (0, 18446744073709551615, ()) ∧ G39 () = true := ⟨by decide +kernel, by decide +kernel⟩
  exact ⟨by decide +kernel, by decide +kernel⟩
theorem bit_all {i : Nat} (h : i < 64) : bit 18446744073709551615 i = true := by
  have := bit_msk (k := 64) (i := i) (by omega)
  rw [show msk 64 = 18446744073709551615 from rfl] at this
  rw [this]; simpa using h
theorem inS_unk {a : Sc} (h : RS a) : inS unk a = true := by
  unfold inS inT unk
  have h1 : hasT (0, 18446744073709551615, ()) a.1.1 = true := hasT_iff.2 fun i hi => by
    by_cases h : i < 64
    · rw [bit_all h] at hi; cases hi
    · rw [bit_hi a.1.1 (by omega), bit0]
  have h2 : ior .u64 18446744073709551615 a.1.2.1 = 18446744073709551615 := bits_eq (inR_ior _ _) (by unfold InR; omega) (fun i => by
    rw [bit_ior]
    by_cases h : i < 64
    · rw [bit_all h]; rfl
    · rw [bit_hi _ (by omega), bit_hi _ (by omega)]; rfl)
  have h3 := h.2.1; have h4 := h.2.2
  unfold InR at h3 h4
  rw [h1, h2]
  simp only [decide_true, Bool.and_true, Bool.and_eq_true, decide_eq_true_eq, and_true]
  exact ⟨h3.1, by omega⟩
theorem E23_eq {n : Int} (h : InR n) : E23 (n, ()) = some (cns n) := by
  show some ((iandn .u64 n 0, 0, ()), n, n, ()) = _
  have : iandn .u64 n 0 = n := bits_eq (inR_iandn _ _) h (fun i => by rw [bit_iandn, bit0]; simp)
  rw [this]; rfl
theorem F23_eq {n : Int} (h : InR n) : F23 (n, ()) = cns n ∧ G23 (n, ()) = true := ofE (E23_eq h)
theorem S6_eq (l : List Sc) (n : Int) : E6 (l, n, ()) = S6 F7 G7 F9 G9 F12 G12 F19 G19 F20 G20 F21 G21 F22 G22 F23 G23 F24 G24 l n := rfl
theorem E6_eq {l : List Sc} {n : Int} (h0 : RS (l.getD 0 ((0, 0, ()), 0, 0, ()))) (h1 : RS (l.getD 1 ((0, 0, ()), 0, 0, ()))) (hn : InR n) : E6 (l, n, ()) = some true := by
  rw [S6_eq]
  unfold S6
  generalize l.getD 0 ((0, 0, ()), 0, 0, ()) = a at *
  generalize l.getD 1 ((0, 0, ()), 0, 0, ()) = b at *
  rw [(F7_eq a).1, (F7_eq a).2, (F7_eq b).1, (F7_eq b).2]
  have hw := RS_wide h0
  rw [(F9_eq a n).1, (F9_eq a n).2, (F19_eq a n).1, (F19_eq a n).2, (F20_eq (wideF a) (wideF b)).1, (F20_eq (wideF a) (wideF b)).2, (F21_eq (wideF a) (wideF b) hw.1.2).1, (F21_eq (wideF a) (wideF b) hw.1.2).2,
    (F20_eq (wideF a) (wideF a)).1, (F20_eq (wideF a) (wideF a)).2, F22_eq.1, F22_eq.2, (F20_eq unk (wideF a)).1, (F20_eq unk (wideF a)).2, (F23_eq hn).1, (F23_eq hn).2, (F24_eq n).1, (F24_eq n).2, inS_self hw, inS_unk hw]
  exact (bit_b _).trans ((bit_b _).trans ((bif_t rfl).trans ((bif_t rfl).trans ((bif_t (eqS_self _)).trans rfl))))
where
  bit_b {α : Type} (c : Bool) {x y : α} : (bif c == c then x else y) = x := bif_t (by simp)
end Go.Proofs
