import Derived.Test.YteidebhnjkbbeaaP
namespace Go.Proofs
open Go.GX
theorem and_mask (a : Int) (n : Nat) (hn : n ≤ 64) : iand .u64 a ((2 ^ n - 1 : Nat) : Int) = a % ((2 ^ n : Nat) : Int) := by
  rw [iand_u64]
  have h1 : 2 ^ n ≤ 2 ^ 64 := Nat.pow_le_pow_right (by omega) hn
  have h0 : 0 < 2 ^ n := Nat.pow_pos (by omega)
  have e : ((((2 ^ n - 1 : Nat) : Int) % 18446744073709551616).toNat) = 2 ^ n - 1 := by omega
  rw [e, Nat.and_two_pow_sub_one_eq_mod]
  have hd : (2 ^ n) ∣ 2 ^ 64 := Nat.pow_dvd_pow 2 hn
  have hd2 : ((2 ^ n : Nat) : Int) ∣ ((2 ^ 64 : Nat) : Int) := Int.natCast_dvd_natCast.2 hd
  have hd3 : ((2 ^ n : Nat) : Int) ∣ (18446744073709551616 : Int) := hd2
  rw [Int.natCast_emod, Int.toNat_of_nonneg (by omega), Int.emod_emod_of_dvd _ hd3]
theorem and63 (a : Int) : iand .u64 a 63 = a % 64 := and_mask a 6 (by omega)
theorem and31 (a : Int) : iand .u64 a 31 = a % 32 := and_mask a 5 (by omega)
theorem tmod_pos {a b : Int} (h : 0 ≤ a) : Int.tmod a b = a % b := Int.tmod_eq_emod_of_nonneg h
theorem sar32 {a : Int} (_ : 0 ≤ a ∧ a < 4294967296) : ishr .i64 (IntKind.wrap .i64 (ishl .u64 a 32)) 32 = IntKind.wrap .i32 a := by
  unfold ishr ishl
  simp only [IntKind.bits, show (min (32 : Int).toNat 64) = 32 from rfl]
  rw [wrap_u64, wrap_i64, wrap_i32, show (2 ^ 32 : Int) = 4294967296 from rfl, Int.fdiv_eq_ediv_of_nonneg _ (by omega)]
  split <;> split <;> omega
theorem sar0 {a : Int} (_ : 0 ≤ a ∧ a < 18446744073709551616) : ishr .i64 (IntKind.wrap .i64 (ishl .u64 a 0)) 0 = IntKind.wrap .i64 a := by
  unfold ishr ishl
  simp only [IntKind.bits, show (min (0 : Int).toNat 64) = 0 from rfl]
  rw [wrap_u64, wrap_i64, wrap_i64, show (2 ^ 0 : Int) = 1 from rfl, Int.fdiv_eq_ediv_of_nonneg _ (by omega)]
  split <;> split <;> omega
end Go.Proofs
