import Derived.Test.YteidebhnjkbbeaaPB
namespace Go.Proofs
open Go.GX
/-! Words as rows of bits. -/
def u (a : Int) : Nat := (a % 18446744073709551616).toNat
def bit (a : Int) (i : Nat) : Bool := (u a).testBit i
def InR (a : Int) : Prop := 0 ≤ a ∧ a < 18446744073709551616
theorem u_lt (a : Int) : u a < 2 ^ 64 := by unfold u; omega
theorem u_of {a : Int} (h : InR a) : (u a : Int) = a := by unfold u; unfold InR at h; omega
theorem u_cast (n : Nat) (h : n < 2 ^ 64) : u (n : Int) = n := by unfold u; omega
theorem bits_eq {a b : Int} (ha : InR a) (hb : InR b) (h : ∀ i, bit a i = bit b i) : a = b := by
  rw [← u_of ha, ← u_of hb, Nat.eq_of_testBit_eq h]
theorem eq_bits {a b : Int} (ha : InR a) (hb : InR b) : a = b ↔ ∀ i, bit a i = bit b i := ⟨fun h i => by rw [h], bits_eq ha hb⟩
theorem bit0 (i : Nat) : bit 0 i = false := by show (u 0).testBit i = false; rw [show u 0 = 0 from rfl]; simp
theorem inR0 : InR 0 := by unfold InR; omega
theorem eq0_bits {a : Int} (ha : InR a) : a = 0 ↔ ∀ i, bit a i = false := by rw [eq_bits ha inR0]; simp only [bit0]
theorem inR_nat {n : Nat} (h : n < 2 ^ 64) : InR (n : Int) := by unfold InR; omega
theorem inR_wrap (a : Int) : InR (IntKind.wrap .u64 a) := by unfold InR; rw [wrap_u64]; omega
theorem iand_n (a b : Int) : iand .u64 a b = ((u a &&& u b : Nat) : Int) := iand_u64 a b
theorem ixor_n (a b : Int) : ixor .u64 a b = ((u a ^^^ u b : Nat) : Int) := ixor_u64 a b
theorem ior_n (a b : Int) : ior .u64 a b = ((u a ||| u b : Nat) : Int) := by
  unfold ior
  rw [BitVec.toNat_or, ofInt64, ofInt64, wrap_u64]
  have := Nat.or_lt_two_pow (u_lt a) (u_lt b)
  unfold u at this ⊢
  omega
theorem iandn_n (a b : Int) : iandn .u64 a b = ((BitVec.ofInt 64 a &&& ~~~BitVec.ofInt 64 b).toNat : Int) := by
  unfold iandn
  rw [wrap_u64]
  have := (BitVec.ofInt 64 a &&& ~~~BitVec.ofInt 64 b).isLt
  show (((BitVec.ofInt 64 a &&& ~~~BitVec.ofInt 64 b).toNat : Int)) % 18446744073709551616 = _
  omega
theorem inR_iand (a b : Int) : InR (iand .u64 a b) := by unfold iand; exact inR_wrap _
theorem inR_ior (a b : Int) : InR (ior .u64 a b) := by unfold ior; exact inR_wrap _
theorem inR_ixor (a b : Int) : InR (ixor .u64 a b) := by unfold ixor; exact inR_wrap _
theorem inR_iandn (a b : Int) : InR (iandn .u64 a b) := by unfold iandn; exact inR_wrap _
theorem bit_iand (a b : Int) (i : Nat) : bit (iand .u64 a b) i = (bit a i && bit b i) := by
  unfold bit
  rw [iand_n, u_cast _ (Nat.and_lt_two_pow _ (u_lt b)), Nat.testBit_and]
theorem bit_ior (a b : Int) (i : Nat) : bit (ior .u64 a b) i = (bit a i || bit b i) := by
  unfold bit
  rw [ior_n, u_cast _ (Nat.or_lt_two_pow (u_lt a) (u_lt b)), Nat.testBit_or]
theorem bit_ixor (a b : Int) (i : Nat) : bit (ixor .u64 a b) i = (bit a i ^^ bit b i) := by
  unfold bit
  rw [ixor_n, u_cast _ (Nat.xor_lt_two_pow (u_lt a) (u_lt b)), Nat.testBit_xor]
theorem bv_bit (a : Int) (i : Nat) : (BitVec.ofInt 64 a).getLsbD i = bit a i := by
  show (BitVec.ofInt 64 a).toNat.testBit i = _
  have := ofInt64 a
  rw [show (BitVec.ofInt 64 a).toNat = (a % 18446744073709551616).toNat from this]; rfl
theorem bit_hi (a : Int) {i : Nat} (h : 64 ≤ i) : bit a i = false :=
  Nat.testBit_lt_two_pow (Nat.lt_of_lt_of_le (u_lt a) (Nat.pow_le_pow_right (by omega) h))
theorem bit_iandn (a b : Int) (i : Nat) : bit (iandn .u64 a b) i = (bit a i && !bit b i) := by
  have h : bit (iandn .u64 a b) i = (BitVec.ofInt 64 a &&& ~~~BitVec.ofInt 64 b).getLsbD i := by
    rw [iandn_n]
    unfold bit
    rw [u_cast _ (BitVec.isLt _)]
    rfl
  rw [h, BitVec.getLsbD_and, BitVec.getLsbD_not, bv_bit, bv_bit]
  by_cases hi : i < 64
  · simp [hi]
  · rw [bit_hi a (by omega)]; simp
end Go.Proofs
