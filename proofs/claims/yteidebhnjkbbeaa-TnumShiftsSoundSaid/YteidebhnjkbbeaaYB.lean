import Derived.Test.YteidebhnjkbbeaaY
namespace Go.Proofs
open Go.GX
set_option linter.unusedVariables false
set_option linter.unusedSimpArgs false
theorem u_sar (x : Int) (k : Nat) (hk : k ≤ 63) (hx : InR x) : u (IntKind.wrap .u64 (ishr .i64 (IntKind.wrap .i64 x) (k : Int))) =
    if x < 9223372036854775808 then u x / 2 ^ k else 2 ^ (64 - k) * (2 ^ k - 1) + u x / 2 ^ k := by
  unfold ishr
  rw [show IntKind.bits .i64 = 64 from rfl, show (min ((k : Int).toNat) 64) = k from by omega]
  have h2 : ((2 : Int) ^ k) = ((2 ^ k : Nat) : Int) := by rw [Int.natCast_pow]; rfl
  rw [h2, Int.fdiv_eq_ediv_of_nonneg _ (Int.natCast_nonneg _), wrap_i64, wrap_u64]
  have hp : 0 < 2 ^ k := Nat.pow_pos (by omega)
  have hpp : 2 ^ (64 - k) * 2 ^ k = 18446744073709551616 := by rw [← Nat.pow_add, show 64 - k + k = 64 from by omega]
  obtain ⟨m, hm⟩ : ∃ m : Nat, x = (m : Int) := ⟨x.toNat, (Int.toNat_of_nonneg hx.1).symm⟩
  have hlt : m < 18446744073709551616 := by have := hx.2; omega
  have hux : u x = m := by rw [hm]; exact u_cast m hlt
  have hle : m / 2 ^ k ≤ m := Nat.div_le_self _ _
  rw [hux]
  subst hm
  rw [show (m : Int) % 18446744073709551616 = m from by omega]
  by_cases c : (m : Int) < 9223372036854775808
  · rw [if_neg (by omega), if_pos c, ← Int.natCast_ediv]
    unfold u
    generalize m / 2 ^ k = q at *
    omega
  · rw [if_pos (by omega), if_neg c]
    have e : ((m : Int) - 18446744073709551616) / ((2 ^ k : Nat) : Int) = ((m / 2 ^ k : Nat) : Int) - ((2 ^ (64 - k) : Nat) : Int) := by
      have : (18446744073709551616 : Int) = ((2 ^ (64 - k) : Nat) : Int) * ((2 ^ k : Nat) : Int) := by rw [← Int.natCast_mul, hpp]; rfl
      rw [this, Int.sub_mul_ediv_right _ _ (by omega), ← Int.natCast_ediv]
    rw [e]
    have hq : m / 2 ^ k < 2 ^ (64 - k) := by
      rw [Nat.div_lt_iff_lt_mul hp, hpp]; exact hlt
    have hq2 : 2 ^ (64 - k) ≤ 18446744073709551616 := by rw [← hpp]; exact Nat.le_mul_of_pos_right _ hp
    have hmul : 2 ^ (64 - k) * (2 ^ k - 1) = 18446744073709551616 - 2 ^ (64 - k) := by rw [Nat.mul_sub, hpp, Nat.mul_one]
    rw [hmul]
    unfold u
    generalize m / 2 ^ k = q at *
    generalize 2 ^ (64 - k) = t at *
    clear hmul hpp e
    omega
theorem bit_sar (x : Int) (k i : Nat) (hk : k ≤ 63) (hx : InR x) : bit (IntKind.wrap .u64 (ishr .i64 (IntKind.wrap .i64 x) (k : Int))) i = if i + k < 64 then bit x (i + k) else (decide (i < 64) && bit x 63) := by
  unfold bit
  rw [u_sar x k hk hx]
  have hq : u x / 2 ^ k < 2 ^ (64 - k) := by
    rw [Nat.div_lt_iff_lt_mul (Nat.pow_pos (by omega)), ← Nat.pow_add, show 64 - k + k = 64 from by omega]; exact u_lt x
  have ux : (u x : Int) = x := u_of hx
  have top : (u x).testBit 63 = decide (9223372036854775808 ≤ x) := by
    rw [Nat.testBit_eq_decide_div_mod_eq]
    have := u_lt x
    by_cases c : 9223372036854775808 ≤ x
    · rw [decide_eq_true c]; apply decide_eq_true; omega
    · rw [decide_eq_false c]; apply decide_eq_false; omega
  by_cases c : x < 9223372036854775808
  · rw [if_pos c, Nat.testBit_div_two_pow]
    by_cases d : i + k < 64
    · rw [if_pos d]
    · rw [if_neg d, top, decide_eq_false (show ¬ 9223372036854775808 ≤ x by omega), Bool.and_false]
      exact Nat.testBit_lt_two_pow (Nat.lt_of_lt_of_le (u_lt x) (Nat.pow_le_pow_right (by omega) (by omega)))
  · rw [if_neg c, Nat.testBit_two_pow_mul_add _ hq]
    by_cases d : i + k < 64
    · rw [if_pos d, if_pos (by omega), Nat.testBit_div_two_pow]
    · rw [if_neg d, if_neg (by omega), top, decide_eq_true (show 9223372036854775808 ≤ x by omega), Bool.and_true, Nat.testBit_two_pow_sub_one]
      by_cases e : i < 64
      · rw [decide_eq_true e]; apply decide_eq_true; omega
      · rw [decide_eq_false e]; apply decide_eq_false; omega
end Go.Proofs
