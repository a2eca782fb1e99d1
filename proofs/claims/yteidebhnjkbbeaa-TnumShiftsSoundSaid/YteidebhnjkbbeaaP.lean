import Derived.Test.YteidebhnjkbbeaaGb
namespace Go.Proofs
open Go.GX
theorem nat_xor_pow (n a : Nat) (h : a < 2 ^ n) : a ^^^ 2 ^ n = a + 2 ^ n := by
  have h1 : a ^^^ 2 ^ n = 2 ^ n ||| a := by
    apply Nat.eq_of_testBit_eq
    intro i
    simp only [Nat.testBit_xor, Nat.testBit_or, Nat.testBit_two_pow]
    by_cases e : n = i
    · subst e; rw [Nat.testBit_lt_two_pow h]; simp
    · simp [e]
  rw [h1]
  have := Nat.two_pow_add_eq_or_of_lt (i := n) h 1
  simp at this
  omega
theorem nat_xor_pow2 (n a : Nat) (h1 : 2 ^ n ≤ a) (h : a < 2 ^ (n + 1)) : a ^^^ 2 ^ n = a - 2 ^ n := by
  have hlt : a - 2 ^ n < 2 ^ n := by rw [Nat.pow_succ] at h; omega
  have := nat_xor_pow n (a - 2 ^ n) hlt
  rw [show a - 2 ^ n + 2 ^ n = a from by omega] at this
  calc a ^^^ 2 ^ n = ((a - 2 ^ n) ^^^ 2 ^ n) ^^^ 2 ^ n := by rw [this]
    _ = a - 2 ^ n := by rw [Nat.xor_assoc, Nat.xor_self, Nat.xor_zero]
theorem wf_u64 {a : Int} (h : (Lit.int .u64 a).wf = true) : 0 ≤ a ∧ a < 18446744073709551616 := by
  simp [Lit.wf, IntKind.min, IntKind.max, IntKind.signed, IntKind.bits] at h; omega
theorem wf_i64 {a : Int} (h : (Lit.int .i64 a).wf = true) : -9223372036854775808 ≤ a ∧ a < 9223372036854775808 := by
  simp [Lit.wf, IntKind.min, IntKind.max, IntKind.signed, IntKind.bits] at h; omega
theorem wrap_u64 (a : Int) : IntKind.wrap .u64 a = a % 18446744073709551616 := by simp [IntKind.wrap, IntKind.signed, IntKind.bits]
theorem wrap_u32 (a : Int) : IntKind.wrap .u32 a = a % 4294967296 := by simp [IntKind.wrap, IntKind.signed, IntKind.bits]
theorem wrap_i64 (a : Int) : IntKind.wrap .i64 a = if a % 18446744073709551616 ≥ 9223372036854775808 then a % 18446744073709551616 - 18446744073709551616 else a % 18446744073709551616 := by
  simp [IntKind.wrap, IntKind.signed, IntKind.bits]
theorem wrap_i32 (a : Int) : IntKind.wrap .i32 a = if a % 4294967296 ≥ 2147483648 then a % 4294967296 - 4294967296 else a % 4294967296 := by
  simp [IntKind.wrap, IntKind.signed, IntKind.bits]
/-- words of 64 bits as numbers -/
theorem ofInt64 (a : Int) : (BitVec.ofInt (IntKind.bits .u64) a).toNat = (a % 18446744073709551616).toNat := by
  show (BitVec.ofInt 64 a).toNat = _
  simp [BitVec.toNat_ofInt]
theorem iand_u64 (a b : Int) : iand .u64 a b = (((a % 18446744073709551616).toNat &&& (b % 18446744073709551616).toNat : Nat) : Int) := by
  unfold iand
  rw [BitVec.toNat_and, ofInt64, ofInt64, wrap_u64]
  have h1 : (a % 18446744073709551616).toNat < 2 ^ 64 := by omega
  have := Nat.and_lt_two_pow (n := 64) (b % 18446744073709551616).toNat h1
  rw [Nat.and_comm] at this
  omega
theorem ixor_u64 (a b : Int) : ixor .u64 a b = (((a % 18446744073709551616).toNat ^^^ (b % 18446744073709551616).toNat : Nat) : Int) := by
  unfold ixor
  rw [BitVec.toNat_xor, ofInt64, ofInt64, wrap_u64]
  have h1 : (a % 18446744073709551616).toNat < 2 ^ 64 := by omega
  have h2 : (b % 18446744073709551616).toNat < 2 ^ 64 := by omega
  have := Nat.xor_lt_two_pow h1 h2
  omega
theorem and_lo (a : Int) : iand .u64 a 4294967295 = a % 4294967296 := by
  rw [iand_u64]
  have e : (4294967295 % 18446744073709551616 : Int).toNat = 2 ^ 32 - 1 := by decide
  rw [e, Nat.and_two_pow_sub_one_eq_mod]
  omega
theorem top64 {a : Int} (h : 0 ≤ a ∧ a < 18446744073709551616) : ixor .u64 a 9223372036854775808 = if a < 9223372036854775808 then a + 9223372036854775808 else a - 9223372036854775808 := by
  rw [ixor_u64]
  have e : (9223372036854775808 % 18446744073709551616 : Int).toNat = 2 ^ 63 := by decide
  rw [e]
  have ha : (a % 18446744073709551616).toNat = a.toNat := by omega
  rw [ha]
  by_cases c : a < 9223372036854775808
  · rw [if_pos c, nat_xor_pow 63 a.toNat (by omega)]; omega
  · rw [if_neg c, nat_xor_pow2 63 a.toNat (by omega) (by omega)]; omega
theorem top32 {a : Int} (h : 0 ≤ a ∧ a < 4294967296) : ixor .u64 a 2147483648 = if a < 2147483648 then a + 2147483648 else a - 2147483648 := by
  rw [ixor_u64]
  have e : (2147483648 % 18446744073709551616 : Int).toNat = 2 ^ 31 := by decide
  rw [e]
  have ha : (a % 18446744073709551616).toNat = a.toNat := by omega
  rw [ha]
  by_cases c : a < 2147483648
  · rw [if_pos c, nat_xor_pow 31 a.toNat (by omega)]; omega
  · rw [if_neg c, nat_xor_pow2 31 a.toNat (by omega) (by omega)]; omega
end Go.Proofs
