import Derived.Test.YthfblpemlpjooaaI
import Derived.Test.YthfblpemlpjooaaGc
namespace Go.Proofs
open Go.GX
set_option linter.unusedVariables false
set_option linter.unusedSimpArgs false
abbrev Tn := Int × Int × Unit
abbrev Sc := Tn × Int × Int × Unit
def RT (t : Tn) : Prop := InR t.1 ∧ InR t.2.1
def RS (s : Sc) : Prop := RT s.1 ∧ InR s.2.1 ∧ InR s.2.2.1
/-! ## The numbers between two -/
def len (n : Nat) : Nat := if n = 0 then 0 else Nat.log2 n + 1
theorem BL_len (n : Nat) : BL n (len n) := by
  unfold len
  by_cases h : n = 0
  · rw [if_pos h]; subst h; exact ⟨by decide, .inl rfl⟩
  · rw [if_neg h]
    exact ⟨Nat.lt_log2_self, .inr (Nat.log2_self_le h)⟩
theorem len_le {n : Nat} (h : n < 2 ^ 64) : len n ≤ 64 := by
  have hb := BL_len n
  rcases hb.2 with e | e
  · omega
  · have : ¬ 64 ≤ len n - 1 := by
      intro hh
      have := Nat.pow_le_pow_right (show 0 < 2 by omega) hh
      omega
    omega
def msk (k : Nat) : Int := ((2 ^ k - 1 : Nat) : Int)
theorem inR_msk {k : Nat} (h : k ≤ 64) : InR (msk k) := by
  unfold msk
  have : 2 ^ k ≤ 2 ^ 64 := Nat.pow_le_pow_right (by omega) h
  exact inR_nat (by have : 0 < 2 ^ k := Nat.pow_pos (by omega); omega)
theorem bit_msk {k i : Nat} (h : k ≤ 64) : bit (msk k) i = decide (i < k) := by
  unfold bit msk
  have h2 : 2 ^ k ≤ 2 ^ 64 := Nat.pow_le_pow_right (by omega) h
  have h0 : 0 < 2 ^ k := Nat.pow_pos (by omega)
  rw [u_cast _ (by omega), Nat.testBit_two_pow_sub_one]
def mOf (lo hi : Int) : Int := msk (len (u lo ^^^ u hi))
def ofF (lo hi : Int) : Tn := (iandn .u64 lo (mOf lo hi), mOf lo hi, ())
theorem xor_lt (lo hi : Int) : u lo ^^^ u hi < 2 ^ 64 := Nat.xor_lt_two_pow (u_lt _) (u_lt _)
theorem E44_eq {x : Int} (hx : InR x) : E44 (x, ()) = some ((len x.toNat : Nat) : Int) := by
  obtain ⟨L, h1, h2, h3⟩ := len_some x hx
  have := BL_uniq h3 (BL_len _)
  subst this
  exact h1
theorem F44_eq {x : Int} (hx : InR x) : F44 (x, ()) = ((len x.toNat : Nat) : Int) ∧ G44 (x, ()) = true := ofE (E44_eq hx)
theorem F43_eq (a b : Int) : F43 (a, b, ()) = (iandn .u64 a b, b, ()) ∧ G43 (a, b, ()) = true := ⟨rfl, rfl⟩
theorem one_shl {L : Nat} (h : L ≤ 64) : IntKind.wrap .u64 (ishl .u64 1 (L : Int) - 1) = msk L := by
  unfold ishl msk
  rw [show IntKind.bits .u64 = 64 from rfl, show (min ((L : Int).toNat) 64) = L by omega]
  have hc : ((2 : Int) ^ L) = ((2 ^ L : Nat) : Int) := by rw [Int.natCast_pow]; rfl
  rw [hc, wrap_u64, wrap_u64]
  have h0 : 0 < 2 ^ L := Nat.pow_pos (by omega)
  by_cases e : L = 64
  · subst e; decide
  · have : 2 ^ L ≤ 2 ^ 63 := Nat.pow_le_pow_right (by omega) (by omega)
    omega
theorem E32_eq (lo hi : Int) : E32 (lo, hi, ()) = some (ofF lo hi) := by
  show S32 F43 G43 F44 G44 lo hi = _
  have hx : InR (ixor .u64 lo hi) := inR_ixor _ _
  have ht : (ixor .u64 lo hi).toNat = u lo ^^^ u hi := by rw [ixor_n]; rfl
  unfold S32
  rw [(F44_eq hx).1, (F44_eq hx).2, ht, one_shl (len_le (xor_lt lo hi)), (F43_eq _ _).1, (F43_eq _ _).2]
  refine (bif_t ?_).trans rfl
  simp only [tt_eq, Bool.and_eq_true, decide_eq_true_eq, true_and, and_true]
  omega
theorem F32_eq (lo hi : Int) : F32 (lo, hi, ()) = ofF lo hi ∧ G32 (lo, hi, ()) = true := ofE (E32_eq lo hi)
theorem V35_run (lo : Int) (t : Tn) : ∀ (k x j : Nat), BL x k → j + k ≤ 64 → wh V35_0 (lo, (), (x : Int), msk j, t, ()) = some (lo, (), msk (j + k), t, ())
  | 0, x, j, hb, _ => by
    have : x = 0 := by have := hb.1; simpa using this
    subst this
    exact wh_stop rfl
  | k + 1, x, j, hb, hj => by
    have h0 : x ≠ 0 := by
      intro h; subst h
      rcases hb.2 with e | e
      · omega
      · have : 0 < 2 ^ (k + 1 - 1) := Nat.pow_pos (by omega)
        omega
    have hp : 2 ^ j ≤ 2 ^ 63 := Nat.pow_le_pow_right (by omega) (by omega)
    have hp0 : 0 < 2 ^ j := Nat.pow_pos (by omega)
    have hm : ior .u64 (ishl .u64 (msk j) 1) 1 = msk (j + 1) := by
      unfold msk
      have hl : ishl .u64 ((2 ^ j - 1 : Nat) : Int) 1 = ((2 * (2 ^ j - 1) : Nat) : Int) := by
        rw [ishl_k .u64 _ 1 1 2 rfl rfl, wrap_u64]; omega
      rw [hl, ior_n, u_cast _ (by omega), show u 1 = 1 from rfl]
      have := Nat.two_pow_add_eq_or_of_lt (i := 1) (b := 1) (by omega) (2 ^ j - 1)
      rw [Nat.pow_one] at this
      rw [← this, Nat.pow_succ]; omega
    have hsh : ishr .u64 (x : Int) 1 = ((x / 2 : Nat) : Int) := by rw [ishr_k .u64 _ 1 1 2 rfl rfl]; omega
    have hstep : V35_0 (lo, (), (x : Int), msk j, t, ()) = some (.inl (lo, (), ((x / 2 : Nat) : Int), msk (j + 1), t, ())) := by
      show R35_0 _ _ lo () (x : Int) (msk j) t = _
      unfold R35_0
      rw [hsh, hm]
      exact bif_t (by rw [decide_eq_false (by omega)]; rfl)
    have hb' : BL (x / 2) k := by
      refine ⟨?_, ?_⟩
      · have := hb.1; rw [Nat.pow_succ] at this; omega
      · by_cases e : k = 0
        · exact .inl e
        · right
          rcases hb.2 with e' | e'
          · omega
          · rw [show k + 1 - 1 = k - 1 + 1 from by omega, Nat.pow_succ] at e'; omega
    rw [wh_next hstep, V35_run lo t k (x / 2) (j + 1) hb' (by omega), show j + 1 + k = j + (k + 1) by omega]
theorem E35_eq (lo hi : Int) : E35 (lo, hi, ()) = some (ofF lo hi) := by
  show S35 W35_0 Q35_0 lo hi = _
  have hw := V35_run lo (0, 0, ()) (len (u lo ^^^ u hi)) (u lo ^^^ u hi) 0 (BL_len _) (by have := len_le (xor_lt lo hi); omega)
  rw [Nat.zero_add] at hw
  have e1 : W35_0 (lo, (), ((u lo ^^^ u hi : Nat) : Int), 0, (0, 0, ()), ()) = _ := whV_of (hd := hd35_0) (ys := ys35_0) hw
  have e2 : Q35_0 (lo, (), ((u lo ^^^ u hi : Nat) : Int), 0, (0, 0, ()), ()) = true := whK_of (hd := hd35_0) (ys := ys35_0) hw
  unfold S35
  rw [ixor_n, e1, e2]
  rfl
theorem F35_eq (lo hi : Int) : F35 (lo, hi, ()) = ofF lo hi ∧ G35 (lo, hi, ()) = true := ofE (E35_eq lo hi)
/-! ## Meet -/
def metB (a b : Tn) : Bool := decide (iandn .u64 (ixor .u64 a.1 b.1) (ior .u64 a.2.1 b.2.1) = 0)
def metF (a b : Tn) : Tn := (iandn .u64 (ior .u64 a.1 b.1) (iand .u64 a.2.1 b.2.1), iand .u64 a.2.1 b.2.1, ())
def metR (a b : Tn) : Tn × Bool × Unit := if metB a b = true then (metF a b, true, ()) else ((0, 0, ()), false, ())
theorem E31_eq (a b : Tn) : E31 (a, b, ()) = some (metR a b) := by
  show S31 F43 G43 a b = _
  unfold S31 metR
  rw [(F43_eq _ _).1, (F43_eq _ _).2]
  cases h : metB a b
  · rw [if_neg (by simp)]; exact bif_t (by unfold metB at h; rw [h]; rfl)
  · rw [if_pos rfl]; exact bif_f (by unfold metB at h; rw [h]; rfl)
theorem iandn_ior (x a b : Int) : iandn .u64 x (ior .u64 a b) = iandn .u64 (iandn .u64 x a) b :=
  bits_eq (inR_iandn _ _) (inR_iandn _ _) (fun i => by rw [bit_iandn, bit_iandn, bit_iandn, bit_ior]; cases bit x i <;> cases bit a i <;> cases bit b i <;> rfl)
theorem E34_eq (a b : Tn) : E34 (a, b, ()) = some (metR a b) := by
  show S34 a b = _
  unfold S34 metR
  cases h : metB a b
  · rw [if_neg (by simp)]; exact bif_t (by unfold metB at h; rw [iandn_ior] at h; rw [h]; rfl)
  · rw [if_pos rfl]; exact bif_f (by unfold metB at h; rw [iandn_ior] at h; rw [h]; rfl)
theorem F31_eq (a b : Tn) : F31 (a, b, ()) = metR a b ∧ G31 (a, b, ()) = true := ofE (E31_eq a b)
theorem F34_eq (a b : Tn) : F34 (a, b, ()) = metR a b ∧ G34 (a, b, ()) = true := ofE (E34_eq a b)
end Go.Proofs
