import Derived.Test.YtfnjmgjpjjpegaaMI
namespace Go.Proofs
open Go.GX
set_option linter.unusedVariables false
set_option linter.unusedSimpArgs false
theorem bne_beq (x : Bool) : (x == !x) = false := by cases x <;> rfl
theorem bne_beq2 (x : Bool) : ((x == true) == (x == false)) = false := by cases x <;> rfl
theorem s12_true (op a b : Int) : s12 op true a b = (S12w op a b (ixor .u64 a 9223372036854775808) (ixor .u64 b 9223372036854775808)).getD (false, 0, ()) := rfl
theorem s12_false (op a b : Int) : s12 op false a b = (S12w op (lo32 a) (lo32 b) (ixor .u64 (lo32 a) 2147483648) (ixor .u64 (lo32 b) 2147483648)).getD (false, 0, ()) := rfl
theorem w16 (a b x y : Int) : S12w 16 a b x y = some (decide (a = b) == true, 0, ()) := by kernel_rfl
theorem w80 (a b x y : Int) : S12w 80 a b x y = some (decide (a = b) == false, 0, ()) := by kernel_rfl
theorem w32 (a b x y : Int) : S12w 32 a b x y = some (decide (a > b) == true, 0, ()) := by kernel_rfl
theorem w176 (a b x y : Int) : S12w 176 a b x y = some (decide (a > b) == false, 0, ()) := by kernel_rfl
theorem w48 (a b x y : Int) : S12w 48 a b x y = some (decide (a ≥ b) == true, 0, ()) := by kernel_rfl
theorem w160 (a b x y : Int) : S12w 160 a b x y = some (decide (a ≥ b) == false, 0, ()) := by kernel_rfl
theorem w96 (a b x y : Int) : S12w 96 a b x y = some (decide (x > y) == true, 0, ()) := by kernel_rfl
theorem w208 (a b x y : Int) : S12w 208 a b x y = some (decide (x > y) == false, 0, ()) := by kernel_rfl
theorem w112 (a b x y : Int) : S12w 112 a b x y = some (decide (x ≥ y) == true, 0, ()) := by kernel_rfl
theorem w192 (a b x y : Int) : S12w 192 a b x y = some (decide (x ≥ y) == false, 0, ()) := by kernel_rfl
theorem cutw (a : Int) (ha : inU a = true) : (s18 a 64).1 = a := by rw [cut_eq a 64 ha]; rfl
theorem cutn (a : Int) (ha : inU a = true) : (s18 a 32).1 = a % 4294967296 := by rw [cut_eq a 32 ha]; exact and_lo a
theorem dq (a b : Int) (w : Bool) (ha : 0 ≤ a) : s20 48 false w a b = if b = 0 then 0 else IntKind.wrap .u64 (Int.tdiv a b) := by rw [dv 48 a b w (.inl rfl) ha]; simp
theorem dr (a b : Int) (w : Bool) (ha : 0 ≤ a) : s20 144 false w a b = if b = 0 then a else a % b := by rw [dv 144 a b w (.inr rfl) ha]; simp
theorem l8t_true (n : List Int) (hn : ∀ i, inU (n.getD i 0) = true) : SL8t Q n = some true := by
  obtain ⟨a, ha⟩ : ∃ a, n.getD 0 0 = a := ⟨_, rfl⟩
  obtain ⟨b, hb⟩ : ∃ b, n.getD 1 0 = b := ⟨_, rfl⟩
  have ia := hn 0
  have ib := hn 1
  rw [ha] at ia; rw [hb] at ib
  have ra := inU_iff.1 ia
  have rb := inU_iff.1 ib
  have i1 : inU (s9 0 true false a b).1 = true := by rw [add_w]; exact inU_wrap _
  have q0 : 0 ≤ Int.tdiv a b := Int.tdiv_nonneg ra.1 rb.1
  have q1 : Int.tdiv a b ≤ a := by rw [Int.tdiv_eq_ediv_of_nonneg ra.1]; exact Int.ediv_le_self b ra.1
  have i2 : inU (s9 48 true false a b).1 = true := by
    rw [div_w a b ib, dq a b true ra.1]; split
    · rfl
    · exact inU_wrap _
  have i3 : inU (s9 144 true false a b).1 = true := by
    rw [rem_w a b ib, dr a b true ra.1]; split
    · exact ia
    · rename_i h0
      have h1 := Int.emod_nonneg a h0
      have h2 := Int.emod_lt_of_pos a (show 0 < b by omega)
      exact inU_iff.2 (by omega)
  have i4 : inU (s9 32 true false (s9 48 true false a b).1 b).1 = true := by rw [mul_w]; exact inU_wrap _
  have c1 : (s9 16 true false (s9 0 true false a b).1 b).1 = a := by rw [sub_w, add_w, wrap_u64, wrap_u64]; omega
  have c2 : (s9 0 true false (s9 32 true false (s9 48 true false a b).1 b).1 (s9 144 true false a b).1).1 = a := by
    rw [add_w, mul_w, div_w a b ib, rem_w a b ib, dq a b true ra.1, dr a b true ra.1]
    by_cases h0 : b = 0
    · rw [if_pos h0, if_pos h0, wrap_u64, wrap_u64]; omega
    · rw [if_neg h0, if_neg h0, Int.tdiv_eq_ediv_of_nonneg ra.1, wrap_u64 (a / b)]
      rw [Int.tdiv_eq_ediv_of_nonneg ra.1] at q0 q1
      rw [show a / b % 18446744073709551616 = a / b from by omega]
      have h3 := Int.mul_ediv_add_emod a b
      rw [Int.mul_comm] at h3
      rw [wrap_u64, wrap_u64]; omega
  simp only [SL8t, Q, ha, hb, s12_true, w16, w80, w32, w176, w48, w160, w96, w208, w112, w192, Option.getD_some, bne_beq2, cond_false, cond_true, decide_true, Bool.not_true, i1, i2, i3, i4, ia, ib, c1, c2, inU2, cutw a ia, swap_swap a ia, tt_eq, Bool.and_self]
theorem l8f_true (n : List Int) (hn : ∀ i, inU (n.getD i 0) = true) : SL8f Q n = some true := by
  obtain ⟨a, ha⟩ : ∃ a, n.getD 0 0 = a := ⟨_, rfl⟩
  obtain ⟨b, hb⟩ : ∃ b, n.getD 1 0 = b := ⟨_, rfl⟩
  have ia := hn 0
  have ib := hn 1
  rw [ha] at ia; rw [hb] at ib
  have ra := mod32r a
  have rb := mod32r b
  have i1 : inU (s9 0 false false a b).1 = true := by rw [add_n]; exact inU_wrap _
  have q0 : 0 ≤ Int.tdiv (a % 4294967296) (b % 4294967296) := Int.tdiv_nonneg ra.1 rb.1
  have q1 : Int.tdiv (a % 4294967296) (b % 4294967296) ≤ a % 4294967296 := by rw [Int.tdiv_eq_ediv_of_nonneg ra.1]; exact Int.ediv_le_self _ ra.1
  have i2 : inU (s9 48 false false a b).1 = true := by rw [div_n]; exact inU_wrap _
  have i3 : inU (s9 144 false false a b).1 = true := by rw [rem_n]; exact inU_wrap _
  have i4 : inU (s9 32 false false (s9 48 false false a b).1 b).1 = true := by rw [mul_n]; exact inU_wrap _
  have c1 : (s9 16 false false (s9 0 false false a b).1 b).1 = a % 4294967296 := by
    rw [sub_n, add_n, and_lo, and_lo, and_lo, low_eq, low_eq, wrap_u64, wrap_u64]; omega
  have c2 : (s9 0 false false (s9 32 false false (s9 48 false false a b).1 b).1 (s9 144 false false a b).1).1 = a % 4294967296 := by
    rw [add_n, mul_n, div_n, rem_n, dq _ _ false ra.1, dr _ _ false ra.1]
    generalize a % 4294967296 = x at ra q0 q1 ⊢
    simp only [and_lo, low_eq]
    generalize b % 4294967296 = y at rb q0 q1 ⊢
    by_cases h0 : y = 0
    · rw [if_pos h0, if_pos h0, wrap_u64, wrap_u64, show (0 : Int) % 4294967296 % 4294967296 * y = 0 from by rw [h0]; rfl]; omega
    · rw [if_neg h0, if_neg h0, Int.tdiv_eq_ediv_of_nonneg ra.1, wrap_u64 (x / y)]
      rw [Int.tdiv_eq_ediv_of_nonneg ra.1] at q0 q1
      have h3 := Int.mul_ediv_add_emod x y
      rw [Int.mul_comm] at h3
      have h4 := Int.emod_nonneg x h0
      have h5 := Int.emod_lt_of_pos x (show 0 < y by omega)
      have h6 : 0 ≤ x / y * y := Int.mul_nonneg q0 rb.1
      rw [show x / y % 18446744073709551616 % 4294967296 % 4294967296 = x / y from by omega]
      rw [wrap_u64, wrap_u64]; omega
  simp only [SL8f, Q, ha, hb, s12_false, w16, w80, w32, w176, w48, w160, w96, w208, w112, w192, Option.getD_some, bne_beq2, cond_false, cond_true, decide_true, Bool.not_true, i1, i2, i3, i4, ia, ib, c1, c2, inU2, cutn a ia, swap_swap a ia, tt_eq, Bool.and_self]
theorem aluRules_pure (n : List Int) (hn : WF (.arr 2 (.int .u64)) n) (w : Bool) (_ : WF .bool w) : PureOK Try.prog 8 [⟨.arr 2 (.int .u64), n⟩, vB w] ⟨.bool, true⟩ := by
  cases w
  · exact fnT_pure Try.tabOK K3_ok mix Try.func8 (lf := 100) ((tL8f Q n).trans (l8f_true n (inU_arr hn)))
  · exact fnT_pure Try.tabOK K3_ok mix Try.func8 (lf := 100) ((tL8t Q n).trans (l8t_true n (inU_arr hn)))
end Go.Proofs
