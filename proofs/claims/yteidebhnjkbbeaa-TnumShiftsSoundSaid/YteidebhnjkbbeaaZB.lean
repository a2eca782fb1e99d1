import Derived.Test.YteidebhnjkbbeaaZA
namespace Go.Proofs
open Go.GX
set_option linter.unusedVariables false
set_option linter.unusedSimpArgs false
theorem u_sx (y : Int) : u (IntKind.wrap .u64 (IntKind.wrap .i32 y)) = if y % 4294967296 < 2147483648 then u y % 2 ^ 32 else 2 ^ 32 * 4294967295 + u y % 2 ^ 32 := by
  rw [wrap_i32, wrap_u64]
  unfold u
  split <;> split <;> omega
theorem bit_sx (y : Int) (i : Nat) : bit (IntKind.wrap .u64 (IntKind.wrap .i32 y)) i = if i < 32 then bit y i else (decide (i < 64) && bit y 31) := by
  unfold bit
  rw [u_sx]
  have hq : u y % 2 ^ 32 < 2 ^ 32 := Nat.mod_lt _ (by decide)
  have top : (u y).testBit 31 = decide (2147483648 ≤ y % 4294967296) := by
    rw [Nat.testBit_eq_decide_div_mod_eq]
    unfold u
    by_cases c : 2147483648 ≤ y % 4294967296
    · rw [decide_eq_true c]; apply decide_eq_true; omega
    · rw [decide_eq_false c]; apply decide_eq_false; omega
  by_cases c : y % 4294967296 < 2147483648
  · rw [if_pos c, Nat.testBit_mod_two_pow]
    by_cases d : i < 32
    · rw [if_pos d, decide_eq_true d, Bool.true_and]
    · rw [if_neg d, decide_eq_false d, top, decide_eq_false (show ¬ 2147483648 ≤ y % 4294967296 by omega), Bool.and_false, Bool.false_and]
  · rw [if_neg c, Nat.testBit_two_pow_mul_add _ hq]
    by_cases d : i < 32
    · rw [if_pos d, if_pos d, Nat.testBit_mod_two_pow, decide_eq_true d, Bool.true_and]
    · rw [if_neg d, if_neg d, top, decide_eq_true (show 2147483648 ≤ y % 4294967296 by omega), Bool.and_true, show 4294967295 = 2 ^ 32 - 1 from rfl, Nat.testBit_two_pow_sub_one]
      by_cases e : i < 64
      · rw [decide_eq_true e]; apply decide_eq_true; omega
      · rw [decide_eq_false e]; apply decide_eq_false; omega
theorem i64_of_sx (y : Int) : IntKind.wrap .i64 (IntKind.wrap .i32 y) = IntKind.wrap .i64 (IntKind.wrap .u64 (IntKind.wrap .i32 y)) := by
  rw [wrap_u64, wrap_i64, wrap_i64]; split <;> split <;> omega
theorem sel_sx {M z V : Int} (h : ∀ i, bit M i = true ∨ bit z i = bit V i) : ∀ i, bit (IntKind.wrap .u64 (IntKind.wrap .i32 M)) i = true ∨ bit (IntKind.wrap .u64 (IntKind.wrap .i32 z)) i = bit (IntKind.wrap .u64 (IntKind.wrap .i32 V)) i := by
  intro i
  rw [bit_sx, bit_sx, bit_sx]
  by_cases c : i < 32
  · rw [if_pos c, if_pos c, if_pos c]; exact h i
  · rw [if_neg c, if_neg c, if_neg c]
    have := h 31
    cases decide (i < 64) <;> simp_all
end Go.Proofs
