import Derived.Test.YteidebhnjkbbeaaBD
namespace Go.Proofs
open Go.GX
set_option linter.unusedVariables false
set_option linter.unusedSimpArgs false
theorem bit_shl (x : Int) (k i : Nat) (hk : k ≤ 64) : bit (ishl .u64 x (k : Int)) i = (decide (i < 64) && (decide (k ≤ i) && bit x (i - k))) := by
  have h : u (ishl .u64 x (k : Int)) = (u x * 2 ^ k) % 2 ^ 64 := by
    unfold ishl
    rw [show IntKind.bits .u64 = 64 from rfl, show (min ((k : Int).toNat) 64) = k from by omega, wrap_u64]
    have h2 : ((2 : Int) ^ k) = ((2 ^ k : Nat) : Int) := by rw [Int.natCast_pow]; rfl
    rw [h2]
    unfold u
    have e : x * ((2 ^ k : Nat) : Int) % 18446744073709551616 = (x % 18446744073709551616) * ((2 ^ k : Nat) : Int) % 18446744073709551616 := by
      rw [Int.mul_emod (x % 18446744073709551616), Int.emod_emod_of_dvd x (Int.dvd_refl _), ← Int.mul_emod]
    rw [e]
    obtain ⟨m, hm⟩ : ∃ m : Nat, x % 18446744073709551616 = (m : Int) := ⟨(x % 18446744073709551616).toNat, by omega⟩
    rw [hm, ← Int.natCast_mul, show ((m * 2 ^ k : Nat) : Int) % 18446744073709551616 = ((m * 2 ^ k % 18446744073709551616 : Nat) : Int) from (Int.natCast_emod _ _).symm, Int.toNat_natCast, show ((m * 2 ^ k % 18446744073709551616 : Nat) : Int) % 18446744073709551616 = ((m * 2 ^ k % 18446744073709551616 : Nat) : Int) from by omega, Int.toNat_natCast]
  unfold bit
  rw [h, Nat.testBit_mod_two_pow, ← Nat.shiftLeft_eq, Nat.testBit_shiftLeft]
theorem bit_shr (x : Int) (k i : Nat) (hk : k ≤ 64) (hx : InR x) : bit (ishr .u64 x (k : Int)) i = bit x (i + k) := by
  have h : u (ishr .u64 x (k : Int)) = u x / 2 ^ k := by
    rw [shr_n x k hk]
    have e : x = ((u x : Nat) : Int) := (u_of hx).symm
    rw [e, ← Int.natCast_ediv, u_cast _ (Nat.lt_of_le_of_lt (Nat.div_le_self _ _) (u_lt _)), u_cast _ (u_lt _)]
  unfold bit
  rw [h, Nat.testBit_div_two_pow]
theorem bit_lo (x : Int) (i : Nat) : bit (iand .u64 x 4294967295) i = (bit x i && decide (i < 32)) := by
  rw [bit_iand]
  have : bit 4294967295 i = decide (i < 32) := bit_mask 32 (by omega) i
  rw [this]
end Go.Proofs
