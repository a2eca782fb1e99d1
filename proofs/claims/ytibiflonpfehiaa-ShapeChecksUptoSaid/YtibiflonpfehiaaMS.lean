import Derived.Test.YtibiflonpfehiaaMQ
namespace Go.Proofs
open Go.GX
set_option linter.unusedVariables false
set_option linter.unusedSimpArgs false
set_option maxRecDepth 10000
theorem cond_iff {c a b : Bool} : ((bif c then a else b) = true) ↔ (c = true ∧ a = true) ∨ (c = false ∧ b = true) := by cases c <;> simp
theorem cond_iffF {c a b : Bool} : ((bif c then a else b) = false) ↔ (c = true ∧ a = false) ∨ (c = false ∧ b = false) := by cases c <;> simp
theorem wr16 (o : Int) : (IntKind.wrap .i64 (IntKind.wrap .i16 o) = o) ↔ (-32768 ≤ o ∧ o ≤ 32767) := by
  rw [wrap_i16, wrap_i64]
  constructor
  · intro h; split at h <;> split at h <;> omega
  · intro h; split <;> split <;> omega
theorem wr32 (o : Int) : (IntKind.wrap .i64 (IntKind.wrap .i32 o) = o) ↔ (-2147483648 ≤ o ∧ o ≤ 2147483647) := by
  rw [wrap_i32, wrap_i64]
  constructor
  · intro h; split at h <;> split at h <;> omega
  · intro h; split <;> split <;> omega
theorem sh8 (x : Int) : (ishr .i64 x 8 = 0) ↔ (0 ≤ x ∧ x ≤ 255) := by
  rw [ishr_k .i64 x 8 8 256 rfl rfl]
  omega
theorem c27_iff (i : In) : c27 i = true ↔ (0 ≤ i.1 ∧ i.1 ≤ 255) ∧ (0 ≤ i.2.1 ∧ i.2.1 ≤ 10) ∧ (0 ≤ i.2.2.1 ∧ i.2.2.1 ≤ 10) ∧ (-32768 ≤ i.2.2.2.1 ∧ i.2.2.2.1 ≤ 32767) ∧ (-2147483648 ≤ i.2.2.2.2.1 ∧ i.2.2.2.2.1 ≤ 2147483647) := by
  unfold c27
  simp only [cond_iff, decide_eq_true_eq, decide_eq_false_iff_not, Bool.not_eq_true', Bool.not_eq_false', Bool.false_eq_true, and_false, or_false]
  rw [← wr16, ← wr32, ← sh8]
  constructor
  · intro h; simp_all
  · intro h; simp_all
theorem shr1 (o : Int) : ishr .i64 o 1 = o / 2 := ishr_k .i64 o 1 1 2 rfl rfl

/- [0, 8, 16, 32, 40, 48, 56, 64, 72, 80, 88, 96, 104, 112, 120, 128, 136, 144, 152, 160, 168, 176, 184, 192, 200, 208, 216, 224, 232, 240, 248] -/
theorem g0 (d s o m : Int) (C : Bool) (hC : C = true ↔ (0 ≤ d ∧ d ≤ 10) ∧ (0 ≤ s ∧ s ≤ 10) ∧ (-32768 ≤ o ∧ o ≤ 32767) ∧ (-2147483648 ≤ m ∧ m ≤ 2147483647)) : (bif (!C) then false else false) = false := by
  have hF : C = false ↔ ¬ ((0 ≤ d ∧ d ≤ 10) ∧ (0 ≤ s ∧ s ≤ 10) ∧ (-32768 ≤ o ∧ o ≤ 32767) ∧ (-2147483648 ≤ m ∧ m ≤ 2147483647)) := by rw [← hC]; cases C <;> simp
  rw [Bool.eq_iff_iff]
  simp only [cond_iff, cond_iffF, isReg, is16, is32, in31, Bool.and_eq_true, Bool.or_eq_true, Bool.and_eq_false_iff, Bool.or_eq_false_iff, decide_eq_true_eq, decide_eq_false_iff_not, Bool.not_eq_true', Bool.not_eq_false', Bool.false_eq_true, Bool.true_eq_false, and_false, or_false, false_and, false_or, and_true, true_and, tt_eq, reduceCtorEq, not_false_eq_true, hC, hF, shr1]
  try omega
/- [1, 9, 17, 25, 33, 41, 49, 57, 65, 73, 81, 89, 153, 161, 169, 177, 185, 193, 201, 209, 217, 225, 233, 241, 249] -/
theorem g1 (d s o m : Int) (C : Bool) (hC : C = true ↔ (0 ≤ d ∧ d ≤ 10) ∧ (0 ≤ s ∧ s ≤ 10) ∧ (-32768 ≤ o ∧ o ≤ 32767) ∧ (-2147483648 ≤ m ∧ m ≤ 2147483647)) : (bif (!C) then false else (bif (decide (m = 0)) then (bif (decide (d < 10)) then false else false) else false)) = (bif (!(bif (!(isReg d)) then false else (bif (!(isReg s)) then false else (bif (!(is16 o)) then false else (bif (!(is32 m)) then false else false))))) then false else (bif (decide (d = 10)) then false else true)) := by
  have hF : C = false ↔ ¬ ((0 ≤ d ∧ d ≤ 10) ∧ (0 ≤ s ∧ s ≤ 10) ∧ (-32768 ≤ o ∧ o ≤ 32767) ∧ (-2147483648 ≤ m ∧ m ≤ 2147483647)) := by rw [← hC]; cases C <;> simp
  rw [Bool.eq_iff_iff]
  simp only [cond_iff, cond_iffF, isReg, is16, is32, in31, Bool.and_eq_true, Bool.or_eq_true, Bool.and_eq_false_iff, Bool.or_eq_false_iff, decide_eq_true_eq, decide_eq_false_iff_not, Bool.not_eq_true', Bool.not_eq_false', Bool.false_eq_true, Bool.true_eq_false, and_false, or_false, false_and, false_or, and_true, true_and, tt_eq, reduceCtorEq, not_false_eq_true, hC, hF, shr1]
  try omega
/- [2, 3, 10, 11, 18, 19, 26, 27, 34, 35, 42, 43, 50, 51, 58, 59, 66, 67, 74, 75, 82, 83, 90, 91, 130, 131, 138, 139, 146, 147, 154, 155, 162, 163, 170, 171, 178, 179, 186, 187, 194, 202, 203, 210, 211, 218, 226, 227, 234, 235, 242, 243, 250, 251] -/
theorem g2 (d s o m : Int) (C : Bool) (hC : C = true ↔ (0 ≤ d ∧ d ≤ 10) ∧ (0 ≤ s ∧ s ≤ 10) ∧ (-32768 ≤ o ∧ o ≤ 32767) ∧ (-2147483648 ≤ m ∧ m ≤ 2147483647)) : (bif (!C) then false else false) = (bif (!(bif (!(isReg d)) then false else (bif (!(isReg s)) then false else (bif (!(is16 o)) then false else (bif (!(is32 m)) then false else false))))) then false else true) := by
  have hF : C = false ↔ ¬ ((0 ≤ d ∧ d ≤ 10) ∧ (0 ≤ s ∧ s ≤ 10) ∧ (-32768 ≤ o ∧ o ≤ 32767) ∧ (-2147483648 ≤ m ∧ m ≤ 2147483647)) := by rw [← hC]; cases C <;> simp
  rw [Bool.eq_iff_iff]
  simp only [cond_iff, cond_iffF, isReg, is16, is32, in31, Bool.and_eq_true, Bool.or_eq_true, Bool.and_eq_false_iff, Bool.or_eq_false_iff, decide_eq_true_eq, decide_eq_false_iff_not, Bool.not_eq_true', Bool.not_eq_false', Bool.false_eq_true, Bool.true_eq_false, and_false, or_false, false_and, false_or, and_true, true_and, tt_eq, reduceCtorEq, not_false_eq_true, hC, hF, shr1]
  try omega
/- [4, 7, 20, 23, 36, 39, 68, 71, 84, 87, 164, 167] -/
theorem g3 (d s o m : Int) (C : Bool) (hC : C = true ↔ (0 ≤ d ∧ d ≤ 10) ∧ (0 ≤ s ∧ s ≤ 10) ∧ (-32768 ≤ o ∧ o ≤ 32767) ∧ (-2147483648 ≤ m ∧ m ≤ 2147483647)) : (bif (!C) then false else (bif (decide (d = 10)) then false else (bif (decide (s = 0)) then (decide (o = 0)) else false))) = (bif (!(bif (!(isReg d)) then false else (bif (!(isReg s)) then false else (bif (!(decide (s = 0))) then false else (bif (!(is32 m)) then false else (bif (!(decide (o = 0))) then (bif (decide (o = 1)) then false else false) else true)))))) then false else (bif (decide (d = 10)) then false else true)) := by
  have hF : C = false ↔ ¬ ((0 ≤ d ∧ d ≤ 10) ∧ (0 ≤ s ∧ s ≤ 10) ∧ (-32768 ≤ o ∧ o ≤ 32767) ∧ (-2147483648 ≤ m ∧ m ≤ 2147483647)) := by rw [← hC]; cases C <;> simp
  rw [Bool.eq_iff_iff]
  simp only [cond_iff, cond_iffF, isReg, is16, is32, in31, Bool.and_eq_true, Bool.or_eq_true, Bool.and_eq_false_iff, Bool.or_eq_false_iff, decide_eq_true_eq, decide_eq_false_iff_not, Bool.not_eq_true', Bool.not_eq_false', Bool.false_eq_true, Bool.true_eq_false, and_false, or_false, false_and, false_or, and_true, true_and, tt_eq, reduceCtorEq, not_false_eq_true, hC, hF, shr1]
  try omega
/- [5] -/
theorem g4 (d s o m : Int) (C : Bool) (hC : C = true ↔ (0 ≤ d ∧ d ≤ 10) ∧ (0 ≤ s ∧ s ≤ 10) ∧ (-32768 ≤ o ∧ o ≤ 32767) ∧ (-2147483648 ≤ m ∧ m ≤ 2147483647)) : (bif (!C) then false else (bif (decide (d = 0)) then (bif (decide (s = 0)) then (decide (m = 0)) else false) else false)) = (bif (!(bif (!(is16 o)) then false else (bif (!(is32 m)) then false else (bif (!(decide (d = 0))) then false else (bif (!(decide (s = 0))) then false else (bif (!(decide (m = 0))) then false else true)))))) then false else true) := by
  have hF : C = false ↔ ¬ ((0 ≤ d ∧ d ≤ 10) ∧ (0 ≤ s ∧ s ≤ 10) ∧ (-32768 ≤ o ∧ o ≤ 32767) ∧ (-2147483648 ≤ m ∧ m ≤ 2147483647)) := by rw [← hC]; cases C <;> simp
  rw [Bool.eq_iff_iff]
  simp only [cond_iff, cond_iffF, isReg, is16, is32, in31, Bool.and_eq_true, Bool.or_eq_true, Bool.and_eq_false_iff, Bool.or_eq_false_iff, decide_eq_true_eq, decide_eq_false_iff_not, Bool.not_eq_true', Bool.not_eq_false', Bool.false_eq_true, Bool.true_eq_false, and_false, or_false, false_and, false_or, and_true, true_and, tt_eq, reduceCtorEq, not_false_eq_true, hC, hF, shr1]
  try omega
/- [6, 13, 14, 134, 141, 142, 150, 157, 158, 229, 230, 237, 238, 245, 246, 253, 254] -/
theorem g5 (d s o m : Int) (C : Bool) (hC : C = true ↔ (0 ≤ d ∧ d ≤ 10) ∧ (0 ≤ s ∧ s ≤ 10) ∧ (-32768 ≤ o ∧ o ≤ 32767) ∧ (-2147483648 ≤ m ∧ m ≤ 2147483647)) : (bif (!C) then false else false) = (bif (!(bif (!(is16 o)) then false else (bif (!(is32 m)) then false else false))) then false else true) := by
  have hF : C = false ↔ ¬ ((0 ≤ d ∧ d ≤ 10) ∧ (0 ≤ s ∧ s ≤ 10) ∧ (-32768 ≤ o ∧ o ≤ 32767) ∧ (-2147483648 ≤ m ∧ m ≤ 2147483647)) := by rw [← hC]; cases C <;> simp
  rw [Bool.eq_iff_iff]
  simp only [cond_iff, cond_iffF, isReg, is16, is32, in31, Bool.and_eq_true, Bool.or_eq_true, Bool.and_eq_false_iff, Bool.or_eq_false_iff, decide_eq_true_eq, decide_eq_false_iff_not, Bool.not_eq_true', Bool.not_eq_false', Bool.false_eq_true, Bool.true_eq_false, and_false, or_false, false_and, false_or, and_true, true_and, tt_eq, reduceCtorEq, not_false_eq_true, hC, hF, shr1]
  try omega
/- [12, 15, 28, 31, 44, 47, 76, 79, 92, 95, 172, 175] -/
theorem g6 (d s o m : Int) (C : Bool) (hC : C = true ↔ (0 ≤ d ∧ d ≤ 10) ∧ (0 ≤ s ∧ s ≤ 10) ∧ (-32768 ≤ o ∧ o ≤ 32767) ∧ (-2147483648 ≤ m ∧ m ≤ 2147483647)) : (bif (!C) then false else (bif (decide (d = 10)) then false else (bif (decide (m = 0)) then (decide (o = 0)) else false))) = (bif (!(bif (!(isReg d)) then false else (bif (!(isReg s)) then false else (bif (!(decide (m = 0))) then false else (bif (!(is32 m)) then false else (bif (!(decide (o = 0))) then (bif (decide (o = 1)) then false else false) else true)))))) then false else (bif (decide (d = 10)) then false else true)) := by
  have hF : C = false ↔ ¬ ((0 ≤ d ∧ d ≤ 10) ∧ (0 ≤ s ∧ s ≤ 10) ∧ (-32768 ≤ o ∧ o ≤ 32767) ∧ (-2147483648 ≤ m ∧ m ≤ 2147483647)) := by rw [← hC]; cases C <;> simp
  rw [Bool.eq_iff_iff]
  simp only [cond_iff, cond_iffF, isReg, is16, is32, in31, Bool.and_eq_true, Bool.or_eq_true, Bool.and_eq_false_iff, Bool.or_eq_false_iff, decide_eq_true_eq, decide_eq_false_iff_not, Bool.not_eq_true', Bool.not_eq_false', Bool.false_eq_true, Bool.true_eq_false, and_false, or_false, false_and, false_or, and_true, true_and, tt_eq, reduceCtorEq, not_false_eq_true, hC, hF, shr1]
  try omega
/- [21, 22, 37, 38, 53, 54, 69, 70, 85, 86, 101, 102, 117, 118, 165, 166, 181, 182, 197, 198, 213, 214] -/
theorem g7 (d s o m : Int) (C : Bool) (hC : C = true ↔ (0 ≤ d ∧ d ≤ 10) ∧ (0 ≤ s ∧ s ≤ 10) ∧ (-32768 ≤ o ∧ o ≤ 32767) ∧ (-2147483648 ≤ m ∧ m ≤ 2147483647)) : (bif (!C) then false else (decide (s = 0))) = (bif (!(bif (!(is16 o)) then false else (bif (!(is32 m)) then false else (bif (!(isReg d)) then false else (bif (!(isReg s)) then false else (bif (!(decide (s = 0))) then false else true)))))) then false else true) := by
  have hF : C = false ↔ ¬ ((0 ≤ d ∧ d ≤ 10) ∧ (0 ≤ s ∧ s ≤ 10) ∧ (-32768 ≤ o ∧ o ≤ 32767) ∧ (-2147483648 ≤ m ∧ m ≤ 2147483647)) := by rw [← hC]; cases C <;> simp
  rw [Bool.eq_iff_iff]
  simp only [cond_iff, cond_iffF, isReg, is16, is32, in31, Bool.and_eq_true, Bool.or_eq_true, Bool.and_eq_false_iff, Bool.or_eq_false_iff, decide_eq_true_eq, decide_eq_false_iff_not, Bool.not_eq_true', Bool.not_eq_false', Bool.false_eq_true, Bool.true_eq_false, and_false, or_false, false_and, false_or, and_true, true_and, tt_eq, reduceCtorEq, not_false_eq_true, hC, hF, shr1]
  try omega
/- [24] -/
theorem g8 (d s o m : Int) (C : Bool) (hC : C = true ↔ (0 ≤ d ∧ d ≤ 10) ∧ (0 ≤ s ∧ s ≤ 10) ∧ (-32768 ≤ o ∧ o ≤ 32767) ∧ (-2147483648 ≤ m ∧ m ≤ 2147483647)) : (bif C then (bif (decide (d < 10)) then (bif (decide (o = 0)) then (bif (decide (s = 0)) then true else (bif (decide (s = 1)) then (decide (m ≥ 0)) else false)) else false) else false) else false) = (bif (decide (d ≥ 0)) then (bif (decide (d ≤ 9)) then (bif (decide (o = 0)) then (bif (decide (s = 0)) then (bif (decide (m ≥ (-2147483648))) then (decide (m ≤ 2147483647)) else false) else (bif (decide (s = 1)) then (bif (decide (m ≥ 0)) then (bif (decide (m ≥ (-2147483648))) then (decide (m ≤ 2147483647)) else false) else false) else false)) else false) else false) else false) := by
  have hF : C = false ↔ ¬ ((0 ≤ d ∧ d ≤ 10) ∧ (0 ≤ s ∧ s ≤ 10) ∧ (-32768 ≤ o ∧ o ≤ 32767) ∧ (-2147483648 ≤ m ∧ m ≤ 2147483647)) := by rw [← hC]; cases C <;> simp
  rw [Bool.eq_iff_iff]
  simp only [cond_iff, cond_iffF, isReg, is16, is32, in31, Bool.and_eq_true, Bool.or_eq_true, Bool.and_eq_false_iff, Bool.or_eq_false_iff, decide_eq_true_eq, decide_eq_false_iff_not, Bool.not_eq_true', Bool.not_eq_false', Bool.false_eq_true, Bool.true_eq_false, and_false, or_false, false_and, false_or, and_true, true_and, tt_eq, reduceCtorEq, not_false_eq_true, hC, hF, shr1]
  try omega
/- [29, 30, 45, 46, 61, 62, 77, 78, 93, 94, 109, 110, 125, 126, 173, 174, 189, 190, 205, 206, 221, 222] -/
theorem g9 (d s o m : Int) (C : Bool) (hC : C = true ↔ (0 ≤ d ∧ d ≤ 10) ∧ (0 ≤ s ∧ s ≤ 10) ∧ (-32768 ≤ o ∧ o ≤ 32767) ∧ (-2147483648 ≤ m ∧ m ≤ 2147483647)) : (bif (!C) then false else (decide (m = 0))) = (bif (!(bif (!(is16 o)) then false else (bif (!(is32 m)) then false else (bif (!(isReg d)) then false else (bif (!(isReg s)) then false else (bif (!(decide (m = 0))) then false else true)))))) then false else true) := by
  have hF : C = false ↔ ¬ ((0 ≤ d ∧ d ≤ 10) ∧ (0 ≤ s ∧ s ≤ 10) ∧ (-32768 ≤ o ∧ o ≤ 32767) ∧ (-2147483648 ≤ m ∧ m ≤ 2147483647)) := by rw [← hC]; cases C <;> simp
  rw [Bool.eq_iff_iff]
  simp only [cond_iff, cond_iffF, isReg, is16, is32, in31, Bool.and_eq_true, Bool.or_eq_true, Bool.and_eq_false_iff, Bool.or_eq_false_iff, decide_eq_true_eq, decide_eq_false_iff_not, Bool.not_eq_true', Bool.not_eq_false', Bool.false_eq_true, Bool.true_eq_false, and_false, or_false, false_and, false_or, and_true, true_and, tt_eq, reduceCtorEq, not_false_eq_true, hC, hF, shr1]
  try omega
/- [52, 55, 148, 151] -/
theorem g10 (d s o m : Int) (C : Bool) (hC : C = true ↔ (0 ≤ d ∧ d ≤ 10) ∧ (0 ≤ s ∧ s ≤ 10) ∧ (-32768 ≤ o ∧ o ≤ 32767) ∧ (-2147483648 ≤ m ∧ m ≤ 2147483647)) : (bif (!C) then false else (bif (decide (d = 10)) then false else (bif (decide (s = 0)) then (bif (decide ((ishr .i64 o 1) = 0)) then (!(decide (m = 0))) else false) else false))) = (bif (!(bif (!(isReg d)) then false else (bif (!(isReg s)) then false else (bif (!(decide (s = 0))) then false else (bif (!(is32 m)) then false else (bif (!(decide (o = 0))) then (bif (decide (o = 1)) then true else false) else true)))))) then false else (bif (decide (d = 10)) then false else (!(decide (m = 0))))) := by
  have hF : C = false ↔ ¬ ((0 ≤ d ∧ d ≤ 10) ∧ (0 ≤ s ∧ s ≤ 10) ∧ (-32768 ≤ o ∧ o ≤ 32767) ∧ (-2147483648 ≤ m ∧ m ≤ 2147483647)) := by rw [← hC]; cases C <;> simp
  rw [Bool.eq_iff_iff]
  simp only [cond_iff, cond_iffF, isReg, is16, is32, in31, Bool.and_eq_true, Bool.or_eq_true, Bool.and_eq_false_iff, Bool.or_eq_false_iff, decide_eq_true_eq, decide_eq_false_iff_not, Bool.not_eq_true', Bool.not_eq_false', Bool.false_eq_true, Bool.true_eq_false, and_false, or_false, false_and, false_or, and_true, true_and, tt_eq, reduceCtorEq, not_false_eq_true, hC, hF, shr1]
  try omega
/- [60, 63, 156, 159] -/
theorem g11 (d s o m : Int) (C : Bool) (hC : C = true ↔ (0 ≤ d ∧ d ≤ 10) ∧ (0 ≤ s ∧ s ≤ 10) ∧ (-32768 ≤ o ∧ o ≤ 32767) ∧ (-2147483648 ≤ m ∧ m ≤ 2147483647)) : (bif (!C) then false else (bif (decide (d = 10)) then false else (bif (decide (m = 0)) then (bif (decide ((ishr .i64 o 1) = 0)) then true else false) else false))) = (bif (!(bif (!(isReg d)) then false else (bif (!(isReg s)) then false else (bif (!(decide (m = 0))) then false else (bif (!(is32 m)) then false else (bif (!(decide (o = 0))) then (bif (decide (o = 1)) then true else false) else true)))))) then false else (bif (decide (d = 10)) then false else true)) := by
  have hF : C = false ↔ ¬ ((0 ≤ d ∧ d ≤ 10) ∧ (0 ≤ s ∧ s ≤ 10) ∧ (-32768 ≤ o ∧ o ≤ 32767) ∧ (-2147483648 ≤ m ∧ m ≤ 2147483647)) := by rw [← hC]; cases C <;> simp
  rw [Bool.eq_iff_iff]
  simp only [cond_iff, cond_iffF, isReg, is16, is32, in31, Bool.and_eq_true, Bool.or_eq_true, Bool.and_eq_false_iff, Bool.or_eq_false_iff, decide_eq_true_eq, decide_eq_false_iff_not, Bool.not_eq_true', Bool.not_eq_false', Bool.false_eq_true, Bool.true_eq_false, and_false, or_false, false_and, false_or, and_true, true_and, tt_eq, reduceCtorEq, not_false_eq_true, hC, hF, shr1]
  try omega
/- [97, 105, 113, 121, 129, 137, 145] -/
theorem g12 (d s o m : Int) (C : Bool) (hC : C = true ↔ (0 ≤ d ∧ d ≤ 10) ∧ (0 ≤ s ∧ s ≤ 10) ∧ (-32768 ≤ o ∧ o ≤ 32767) ∧ (-2147483648 ≤ m ∧ m ≤ 2147483647)) : (bif (!C) then false else (bif (decide (m = 0)) then (bif (decide (d < 10)) then true else false) else false)) = (bif (!(bif (!(isReg d)) then false else (bif (!(isReg s)) then false else (bif (!(is16 o)) then false else (bif (!(is32 m)) then false else (bif (!(decide (m = 0))) then false else true)))))) then false else (bif (decide (d = 10)) then false else true)) := by
  have hF : C = false ↔ ¬ ((0 ≤ d ∧ d ≤ 10) ∧ (0 ≤ s ∧ s ≤ 10) ∧ (-32768 ≤ o ∧ o ≤ 32767) ∧ (-2147483648 ≤ m ∧ m ≤ 2147483647)) := by rw [← hC]; cases C <;> simp
  rw [Bool.eq_iff_iff]
  simp only [cond_iff, cond_iffF, isReg, is16, is32, in31, Bool.and_eq_true, Bool.or_eq_true, Bool.and_eq_false_iff, Bool.or_eq_false_iff, decide_eq_true_eq, decide_eq_false_iff_not, Bool.not_eq_true', Bool.not_eq_false', Bool.false_eq_true, Bool.true_eq_false, and_false, or_false, false_and, false_or, and_true, true_and, tt_eq, reduceCtorEq, not_false_eq_true, hC, hF, shr1]
  try omega
/- [98, 106, 114, 122] -/
theorem g13 (d s o m : Int) (C : Bool) (hC : C = true ↔ (0 ≤ d ∧ d ≤ 10) ∧ (0 ≤ s ∧ s ≤ 10) ∧ (-32768 ≤ o ∧ o ≤ 32767) ∧ (-2147483648 ≤ m ∧ m ≤ 2147483647)) : (bif (!C) then false else (decide (s = 0))) = (bif (!(bif (!(isReg d)) then false else (bif (!(isReg s)) then false else (bif (!(is16 o)) then false else (bif (!(is32 m)) then false else (bif (!(decide (s = 0))) then false else true)))))) then false else true) := by
  have hF : C = false ↔ ¬ ((0 ≤ d ∧ d ≤ 10) ∧ (0 ≤ s ∧ s ≤ 10) ∧ (-32768 ≤ o ∧ o ≤ 32767) ∧ (-2147483648 ≤ m ∧ m ≤ 2147483647)) := by rw [← hC]; cases C <;> simp
  rw [Bool.eq_iff_iff]
  simp only [cond_iff, cond_iffF, isReg, is16, is32, in31, Bool.and_eq_true, Bool.or_eq_true, Bool.and_eq_false_iff, Bool.or_eq_false_iff, decide_eq_true_eq, decide_eq_false_iff_not, Bool.not_eq_true', Bool.not_eq_false', Bool.false_eq_true, Bool.true_eq_false, and_false, or_false, false_and, false_or, and_true, true_and, tt_eq, reduceCtorEq, not_false_eq_true, hC, hF, shr1]
  try omega
/- [99, 107, 115, 123] -/
theorem g14 (d s o m : Int) (C : Bool) (hC : C = true ↔ (0 ≤ d ∧ d ≤ 10) ∧ (0 ≤ s ∧ s ≤ 10) ∧ (-32768 ≤ o ∧ o ≤ 32767) ∧ (-2147483648 ≤ m ∧ m ≤ 2147483647)) : (bif (!C) then false else (decide (m = 0))) = (bif (!(bif (!(isReg d)) then false else (bif (!(isReg s)) then false else (bif (!(is16 o)) then false else (bif (!(is32 m)) then false else (bif (decide (m = 0)) then true else false)))))) then false else true) := by
  have hF : C = false ↔ ¬ ((0 ≤ d ∧ d ≤ 10) ∧ (0 ≤ s ∧ s ≤ 10) ∧ (-32768 ≤ o ∧ o ≤ 32767) ∧ (-2147483648 ≤ m ∧ m ≤ 2147483647)) := by rw [← hC]; cases C <;> simp
  rw [Bool.eq_iff_iff]
  simp only [cond_iff, cond_iffF, isReg, is16, is32, in31, Bool.and_eq_true, Bool.or_eq_true, Bool.and_eq_false_iff, Bool.or_eq_false_iff, decide_eq_true_eq, decide_eq_false_iff_not, Bool.not_eq_true', Bool.not_eq_false', Bool.false_eq_true, Bool.true_eq_false, and_false, or_false, false_and, false_or, and_true, true_and, tt_eq, reduceCtorEq, not_false_eq_true, hC, hF, shr1]
  try omega
/- [100, 116, 196] -/
theorem g15 (d s o m : Int) (C : Bool) (hC : C = true ↔ (0 ≤ d ∧ d ≤ 10) ∧ (0 ≤ s ∧ s ≤ 10) ∧ (-32768 ≤ o ∧ o ≤ 32767) ∧ (-2147483648 ≤ m ∧ m ≤ 2147483647)) : (bif (!C) then false else (bif (decide (d = 10)) then false else (bif (decide (s = 0)) then (bif (decide (o = 0)) then (bif (decide (m ≥ 0)) then (decide (m ≤ 31)) else false) else false) else false))) = (bif (!(bif (!(isReg d)) then false else (bif (!(isReg s)) then false else (bif (!(decide (s = 0))) then false else (bif (!(is32 m)) then false else (bif (!(decide (o = 0))) then (bif (decide (o = 1)) then false else false) else true)))))) then false else (bif (decide (d = 10)) then false else (bif (decide (m ≥ 0)) then (decide (m ≤ 31)) else false))) := by
  have hF : C = false ↔ ¬ ((0 ≤ d ∧ d ≤ 10) ∧ (0 ≤ s ∧ s ≤ 10) ∧ (-32768 ≤ o ∧ o ≤ 32767) ∧ (-2147483648 ≤ m ∧ m ≤ 2147483647)) := by rw [← hC]; cases C <;> simp
  rw [Bool.eq_iff_iff]
  simp only [cond_iff, cond_iffF, isReg, is16, is32, in31, Bool.and_eq_true, Bool.or_eq_true, Bool.and_eq_false_iff, Bool.or_eq_false_iff, decide_eq_true_eq, decide_eq_false_iff_not, Bool.not_eq_true', Bool.not_eq_false', Bool.false_eq_true, Bool.true_eq_false, and_false, or_false, false_and, false_or, and_true, true_and, tt_eq, reduceCtorEq, not_false_eq_true, hC, hF, shr1]
  try omega
/- [103, 119, 199] -/
theorem g16 (d s o m : Int) (C : Bool) (hC : C = true ↔ (0 ≤ d ∧ d ≤ 10) ∧ (0 ≤ s ∧ s ≤ 10) ∧ (-32768 ≤ o ∧ o ≤ 32767) ∧ (-2147483648 ≤ m ∧ m ≤ 2147483647)) : (bif (!C) then false else (bif (decide (d = 10)) then false else (bif (decide (s = 0)) then (bif (decide (o = 0)) then (bif (decide (m ≥ 0)) then (decide (m ≤ 63)) else false) else false) else false))) = (bif (!(bif (!(isReg d)) then false else (bif (!(isReg s)) then false else (bif (!(decide (s = 0))) then false else (bif (!(is32 m)) then false else (bif (!(decide (o = 0))) then (bif (decide (o = 1)) then false else false) else true)))))) then false else (bif (decide (d = 10)) then false else (bif (decide (m ≥ 0)) then (decide (m ≤ 63)) else false))) := by
  have hF : C = false ↔ ¬ ((0 ≤ d ∧ d ≤ 10) ∧ (0 ≤ s ∧ s ≤ 10) ∧ (-32768 ≤ o ∧ o ≤ 32767) ∧ (-2147483648 ≤ m ∧ m ≤ 2147483647)) := by rw [← hC]; cases C <;> simp
  rw [Bool.eq_iff_iff]
  simp only [cond_iff, cond_iffF, isReg, is16, is32, in31, Bool.and_eq_true, Bool.or_eq_true, Bool.and_eq_false_iff, Bool.or_eq_false_iff, decide_eq_true_eq, decide_eq_false_iff_not, Bool.not_eq_true', Bool.not_eq_false', Bool.false_eq_true, Bool.true_eq_false, and_false, or_false, false_and, false_or, and_true, true_and, tt_eq, reduceCtorEq, not_false_eq_true, hC, hF, shr1]
  try omega
/- [108, 111, 124, 127, 204, 207] -/
theorem g17 (d s o m : Int) (C : Bool) (hC : C = true ↔ (0 ≤ d ∧ d ≤ 10) ∧ (0 ≤ s ∧ s ≤ 10) ∧ (-32768 ≤ o ∧ o ≤ 32767) ∧ (-2147483648 ≤ m ∧ m ≤ 2147483647)) : (bif (!C) then false else (bif (decide (d = 10)) then false else (bif (decide (m = 0)) then (bif (decide (o = 0)) then true else false) else false))) = (bif (!(bif (!(isReg d)) then false else (bif (!(isReg s)) then false else (bif (!(decide (m = 0))) then false else (bif (!(is32 m)) then false else (bif (!(decide (o = 0))) then (bif (decide (o = 1)) then false else false) else true)))))) then false else (bif (decide (d = 10)) then false else true)) := by
  have hF : C = false ↔ ¬ ((0 ≤ d ∧ d ≤ 10) ∧ (0 ≤ s ∧ s ≤ 10) ∧ (-32768 ≤ o ∧ o ≤ 32767) ∧ (-2147483648 ≤ m ∧ m ≤ 2147483647)) := by rw [← hC]; cases C <;> simp
  rw [Bool.eq_iff_iff]
  simp only [cond_iff, cond_iffF, isReg, is16, is32, in31, Bool.and_eq_true, Bool.or_eq_true, Bool.and_eq_false_iff, Bool.or_eq_false_iff, decide_eq_true_eq, decide_eq_false_iff_not, Bool.not_eq_true', Bool.not_eq_false', Bool.false_eq_true, Bool.true_eq_false, and_false, or_false, false_and, false_or, and_true, true_and, tt_eq, reduceCtorEq, not_false_eq_true, hC, hF, shr1]
  try omega
/- [132, 135] -/
theorem g18 (d s o m : Int) (C : Bool) (hC : C = true ↔ (0 ≤ d ∧ d ≤ 10) ∧ (0 ≤ s ∧ s ≤ 10) ∧ (-32768 ≤ o ∧ o ≤ 32767) ∧ (-2147483648 ≤ m ∧ m ≤ 2147483647)) : (bif (!C) then false else (bif (decide (d = 10)) then false else (bif (decide (s = 0)) then (bif (decide (o = 0)) then (decide (m = 0)) else false) else false))) = (bif (!(bif (!(isReg d)) then false else (bif (!(isReg s)) then false else (bif (!(decide (s = 0))) then false else (bif (!(decide (o = 0))) then false else (bif (!(decide (m = 0))) then false else true)))))) then false else (bif (decide (d = 10)) then false else true)) := by
  have hF : C = false ↔ ¬ ((0 ≤ d ∧ d ≤ 10) ∧ (0 ≤ s ∧ s ≤ 10) ∧ (-32768 ≤ o ∧ o ≤ 32767) ∧ (-2147483648 ≤ m ∧ m ≤ 2147483647)) := by rw [← hC]; cases C <;> simp
  rw [Bool.eq_iff_iff]
  simp only [cond_iff, cond_iffF, isReg, is16, is32, in31, Bool.and_eq_true, Bool.or_eq_true, Bool.and_eq_false_iff, Bool.or_eq_false_iff, decide_eq_true_eq, decide_eq_false_iff_not, Bool.not_eq_true', Bool.not_eq_false', Bool.false_eq_true, Bool.true_eq_false, and_false, or_false, false_and, false_or, and_true, true_and, tt_eq, reduceCtorEq, not_false_eq_true, hC, hF, shr1]
  try omega
/- [133] -/
theorem g19 (d s o m : Int) (C : Bool) (hC : C = true ↔ (0 ≤ d ∧ d ≤ 10) ∧ (0 ≤ s ∧ s ≤ 10) ∧ (-32768 ≤ o ∧ o ≤ 32767) ∧ (-2147483648 ≤ m ∧ m ≤ 2147483647)) : (bif (!C) then false else (bif (decide (d = 0)) then (bif (decide (s = 0)) then (decide (o = 0)) else false) else false)) = (bif (!(bif (!(is16 o)) then false else (bif (!(is32 m)) then false else (bif (!(decide (d = 0))) then false else (bif (!(decide (s = 0))) then false else (bif (!(decide (o = 0))) then false else true)))))) then false else true) := by
  have hF : C = false ↔ ¬ ((0 ≤ d ∧ d ≤ 10) ∧ (0 ≤ s ∧ s ≤ 10) ∧ (-32768 ≤ o ∧ o ≤ 32767) ∧ (-2147483648 ≤ m ∧ m ≤ 2147483647)) := by rw [← hC]; cases C <;> simp
  rw [Bool.eq_iff_iff]
  simp only [cond_iff, cond_iffF, isReg, is16, is32, in31, Bool.and_eq_true, Bool.or_eq_true, Bool.and_eq_false_iff, Bool.or_eq_false_iff, decide_eq_true_eq, decide_eq_false_iff_not, Bool.not_eq_true', Bool.not_eq_false', Bool.false_eq_true, Bool.true_eq_false, and_false, or_false, false_and, false_or, and_true, true_and, tt_eq, reduceCtorEq, not_false_eq_true, hC, hF, shr1]
  try omega
/- [140, 143, 223] -/
theorem g20 (d s o m : Int) (C : Bool) (hC : C = true ↔ (0 ≤ d ∧ d ≤ 10) ∧ (0 ≤ s ∧ s ≤ 10) ∧ (-32768 ≤ o ∧ o ≤ 32767) ∧ (-2147483648 ≤ m ∧ m ≤ 2147483647)) : (bif (!C) then false else (bif (decide (d = 10)) then false else false)) = (bif (!(bif (!(isReg d)) then false else (bif (!(isReg s)) then false else false))) then false else (bif (decide (d = 10)) then false else true)) := by
  have hF : C = false ↔ ¬ ((0 ≤ d ∧ d ≤ 10) ∧ (0 ≤ s ∧ s ≤ 10) ∧ (-32768 ≤ o ∧ o ≤ 32767) ∧ (-2147483648 ≤ m ∧ m ≤ 2147483647)) := by rw [← hC]; cases C <;> simp
  rw [Bool.eq_iff_iff]
  simp only [cond_iff, cond_iffF, isReg, is16, is32, in31, Bool.and_eq_true, Bool.or_eq_true, Bool.and_eq_false_iff, Bool.or_eq_false_iff, decide_eq_true_eq, decide_eq_false_iff_not, Bool.not_eq_true', Bool.not_eq_false', Bool.false_eq_true, Bool.true_eq_false, and_false, or_false, false_and, false_or, and_true, true_and, tt_eq, reduceCtorEq, not_false_eq_true, hC, hF, shr1]
  try omega
/- [149] -/
theorem g21 (d s o m : Int) (C : Bool) (hC : C = true ↔ (0 ≤ d ∧ d ≤ 10) ∧ (0 ≤ s ∧ s ≤ 10) ∧ (-32768 ≤ o ∧ o ≤ 32767) ∧ (-2147483648 ≤ m ∧ m ≤ 2147483647)) : (bif (!C) then false else ((decide (149 = 149)) && ((decide (d = 0)) && ((decide (s = 0)) && ((decide (o = 0)) && (tt 1 (decide (m = 0)))))))) = (bif (!(bif (!(is16 o)) then false else (bif (!(is32 m)) then false else (bif (!(decide (d = 0))) then false else (bif (!(decide (s = 0))) then false else (bif (!(decide (o = 0))) then false else (bif (!(decide (m = 0))) then false else true))))))) then false else true) := by
  have hF : C = false ↔ ¬ ((0 ≤ d ∧ d ≤ 10) ∧ (0 ≤ s ∧ s ≤ 10) ∧ (-32768 ≤ o ∧ o ≤ 32767) ∧ (-2147483648 ≤ m ∧ m ≤ 2147483647)) := by rw [← hC]; cases C <;> simp
  rw [Bool.eq_iff_iff]
  simp only [cond_iff, cond_iffF, isReg, is16, is32, in31, Bool.and_eq_true, Bool.or_eq_true, Bool.and_eq_false_iff, Bool.or_eq_false_iff, decide_eq_true_eq, decide_eq_false_iff_not, Bool.not_eq_true', Bool.not_eq_false', Bool.false_eq_true, Bool.true_eq_false, and_false, or_false, false_and, false_or, and_true, true_and, tt_eq, reduceCtorEq, not_false_eq_true, hC, hF, shr1]
  try omega
/- [180, 183] -/
theorem g22 (d s o m : Int) (C : Bool) (hC : C = true ↔ (0 ≤ d ∧ d ≤ 10) ∧ (0 ≤ s ∧ s ≤ 10) ∧ (-32768 ≤ o ∧ o ≤ 32767) ∧ (-2147483648 ≤ m ∧ m ≤ 2147483647)) : (bif (!C) then false else (bif (decide (d = 10)) then false else (bif (decide (s = 0)) then (bif (decide (o = 0)) then true else false) else false))) = (bif (!(bif (!(isReg d)) then false else (bif (!(isReg s)) then false else (bif (!(decide (s = 0))) then false else (bif (!(is32 m)) then false else (bif (!(decide (o = 0))) then (bif (decide (o = 1)) then false else false) else true)))))) then false else (bif (decide (d = 10)) then false else true)) := by
  have hF : C = false ↔ ¬ ((0 ≤ d ∧ d ≤ 10) ∧ (0 ≤ s ∧ s ≤ 10) ∧ (-32768 ≤ o ∧ o ≤ 32767) ∧ (-2147483648 ≤ m ∧ m ≤ 2147483647)) := by rw [← hC]; cases C <;> simp
  rw [Bool.eq_iff_iff]
  simp only [cond_iff, cond_iffF, isReg, is16, is32, in31, Bool.and_eq_true, Bool.or_eq_true, Bool.and_eq_false_iff, Bool.or_eq_false_iff, decide_eq_true_eq, decide_eq_false_iff_not, Bool.not_eq_true', Bool.not_eq_false', Bool.false_eq_true, Bool.true_eq_false, and_false, or_false, false_and, false_or, and_true, true_and, tt_eq, reduceCtorEq, not_false_eq_true, hC, hF, shr1]
  try omega
/- [188] -/
theorem g23 (d s o m : Int) (C : Bool) (hC : C = true ↔ (0 ≤ d ∧ d ≤ 10) ∧ (0 ≤ s ∧ s ≤ 10) ∧ (-32768 ≤ o ∧ o ≤ 32767) ∧ (-2147483648 ≤ m ∧ m ≤ 2147483647)) : (bif (!C) then false else (bif (decide (d = 10)) then false else (bif (decide (o = 8)) then (bif (decide (m = 0)) then (bif (decide (o = 0)) then true else true) else false) else (bif (decide (o = 16)) then (bif (decide (m = 0)) then (bif (decide (o = 0)) then true else true) else false) else (bif (decide (o = 32)) then (bif (decide (m = 0)) then (bif (decide (o = 0)) then true else false) else false) else (bif (decide (m = 0)) then (bif (decide (o = 0)) then true else false) else false)))))) = (bif (!(bif (!(isReg d)) then false else (bif (!(isReg s)) then false else (bif (!(decide (m = 0))) then false else (bif (!(is32 m)) then false else (bif (!(decide (o = 0))) then (bif (decide (o = 1)) then (bif (decide (o = 8)) then true else (bif (decide (o = 16)) then true else (bif (decide (o = 32)) then false else false))) else (bif (decide (o = 8)) then true else (bif (decide (o = 16)) then true else (bif (decide (o = 32)) then false else false)))) else true)))))) then false else (bif (decide (d = 10)) then false else true)) := by
  have hF : C = false ↔ ¬ ((0 ≤ d ∧ d ≤ 10) ∧ (0 ≤ s ∧ s ≤ 10) ∧ (-32768 ≤ o ∧ o ≤ 32767) ∧ (-2147483648 ≤ m ∧ m ≤ 2147483647)) := by rw [← hC]; cases C <;> simp
  rw [Bool.eq_iff_iff]
  simp only [cond_iff, cond_iffF, isReg, is16, is32, in31, Bool.and_eq_true, Bool.or_eq_true, Bool.and_eq_false_iff, Bool.or_eq_false_iff, decide_eq_true_eq, decide_eq_false_iff_not, Bool.not_eq_true', Bool.not_eq_false', Bool.false_eq_true, Bool.true_eq_false, and_false, or_false, false_and, false_or, and_true, true_and, tt_eq, reduceCtorEq, not_false_eq_true, hC, hF, shr1]
  try omega
/- [191] -/
theorem g24 (d s o m : Int) (C : Bool) (hC : C = true ↔ (0 ≤ d ∧ d ≤ 10) ∧ (0 ≤ s ∧ s ≤ 10) ∧ (-32768 ≤ o ∧ o ≤ 32767) ∧ (-2147483648 ≤ m ∧ m ≤ 2147483647)) : (bif (!C) then false else (bif (decide (d = 10)) then false else (bif (decide (o = 8)) then (bif (decide (m = 0)) then (bif (decide (o = 0)) then true else true) else false) else (bif (decide (o = 16)) then (bif (decide (m = 0)) then (bif (decide (o = 0)) then true else true) else false) else (bif (decide (o = 32)) then (bif (decide (m = 0)) then (bif (decide (o = 0)) then true else true) else false) else (bif (decide (m = 0)) then (bif (decide (o = 0)) then true else false) else false)))))) = (bif (!(bif (!(isReg d)) then false else (bif (!(isReg s)) then false else (bif (!(decide (m = 0))) then false else (bif (!(is32 m)) then false else (bif (!(decide (o = 0))) then (bif (decide (o = 1)) then (bif (decide (o = 8)) then true else (bif (decide (o = 16)) then true else (bif (decide (o = 32)) then true else false))) else (bif (decide (o = 8)) then true else (bif (decide (o = 16)) then true else (bif (decide (o = 32)) then true else false)))) else true)))))) then false else (bif (decide (d = 10)) then false else true)) := by
  have hF : C = false ↔ ¬ ((0 ≤ d ∧ d ≤ 10) ∧ (0 ≤ s ∧ s ≤ 10) ∧ (-32768 ≤ o ∧ o ≤ 32767) ∧ (-2147483648 ≤ m ∧ m ≤ 2147483647)) := by rw [← hC]; cases C <;> simp
  rw [Bool.eq_iff_iff]
  simp only [cond_iff, cond_iffF, isReg, is16, is32, in31, Bool.and_eq_true, Bool.or_eq_true, Bool.and_eq_false_iff, Bool.or_eq_false_iff, decide_eq_true_eq, decide_eq_false_iff_not, Bool.not_eq_true', Bool.not_eq_false', Bool.false_eq_true, Bool.true_eq_false, and_false, or_false, false_and, false_or, and_true, true_and, tt_eq, reduceCtorEq, not_false_eq_true, hC, hF, shr1]
  try omega
/- [195, 219] -/
theorem g25 (d s o m : Int) (C : Bool) (hC : C = true ↔ (0 ≤ d ∧ d ≤ 10) ∧ (0 ≤ s ∧ s ≤ 10) ∧ (-32768 ≤ o ∧ o ≤ 32767) ∧ (-2147483648 ≤ m ∧ m ≤ 2147483647)) : (bif (!C) then false else (bif (in31 m) then (bif (decide (m = 241)) then true else (bif (decide ((iand .i64 m 1) = 0)) then true else (decide (s < 10)))) else false)) = (bif (!(bif (!(isReg d)) then false else (bif (!(isReg s)) then false else (bif (!(is16 o)) then false else (bif (!(is32 m)) then false else (bif (decide (m = 0)) then true else (bif (decide (m = 1)) then true else (bif (decide (m = 64)) then true else (bif (decide (m = 65)) then true else (bif (decide (m = 80)) then true else (bif (decide (m = 81)) then true else (bif (decide (m = 160)) then true else (bif (decide (m = 161)) then true else (bif (decide (m = 225)) then true else (bif (decide (m = 241)) then true else false))))))))))))))) then false else (bif (decide ((bif (decide (m = 241)) then 0 else (bif (decide ((Int.tmod m 2) = 1)) then s else (-1))) = 10)) then false else true)) := by
  have hF : C = false ↔ ¬ ((0 ≤ d ∧ d ≤ 10) ∧ (0 ≤ s ∧ s ≤ 10) ∧ (-32768 ≤ o ∧ o ≤ 32767) ∧ (-2147483648 ≤ m ∧ m ≤ 2147483647)) := by rw [← hC]; cases C <;> simp
  have key : ∀ v : Int, v = 0 ∨ v = 1 ∨ v = 64 ∨ v = 65 ∨ v = 80 ∨ v = 81 ∨ v = 160 ∨ v = 161 ∨ v = 225 ∨ v = 241 ∨ (in31 v = false ∧ v ≠ 0 ∧ v ≠ 1 ∧ v ≠ 64 ∧ v ≠ 65 ∧ v ≠ 80 ∧ v ≠ 81 ∧ v ≠ 160 ∧ v ≠ 161 ∧ v ≠ 225 ∧ v ≠ 241) := by
    intro v; unfold in31; simp only [Bool.or_eq_false_iff, decide_eq_false_iff_not]; omega
  rcases key m with h | h | h | h | h | h | h | h | h | h | ⟨hx, h0, h1, h64, h65, h80, h81, h160, h161, h225, h241⟩
  · subst h
    have e1 : (bif (!C) then false else (bif (in31 (0 : Int)) then (bif (decide ((0 : Int) = 241)) then true else (bif (decide ((iand .i64 (0 : Int) 1) = 0)) then true else (decide (s < 10)))) else false)) = (bif (!C) then false else true) := by kernel_rfl
    have e2 : (bif (!(bif (!(isReg d)) then false else (bif (!(isReg s)) then false else (bif (!(is16 o)) then false else (bif (!(is32 (0 : Int))) then false else (bif (decide ((0 : Int) = 0)) then true else (bif (decide ((0 : Int) = 1)) then true else (bif (decide ((0 : Int) = 64)) then true else (bif (decide ((0 : Int) = 65)) then true else (bif (decide ((0 : Int) = 80)) then true else (bif (decide ((0 : Int) = 81)) then true else (bif (decide ((0 : Int) = 160)) then true else (bif (decide ((0 : Int) = 161)) then true else (bif (decide ((0 : Int) = 225)) then true else (bif (decide ((0 : Int) = 241)) then true else false))))))))))))))) then false else (bif (decide ((bif (decide ((0 : Int) = 241)) then 0 else (bif (decide ((Int.tmod (0 : Int) 2) = 1)) then s else (-1))) = 10)) then false else true)) = (bif (!(bif (!(isReg d)) then false else (bif (!(isReg s)) then false else (bif (!(is16 o)) then false else true)))) then false else (bif (decide ((-1) = 10)) then false else true)) := by kernel_rfl
    refine e1.trans (Eq.trans ?_ e2.symm)
    rw [Bool.eq_iff_iff]
    simp only [cond_iff, cond_iffF, isReg, is16, is32, in31, Bool.and_eq_true, Bool.or_eq_true, Bool.and_eq_false_iff, Bool.or_eq_false_iff, decide_eq_true_eq, decide_eq_false_iff_not, Bool.not_eq_true', Bool.not_eq_false', Bool.false_eq_true, Bool.true_eq_false, and_false, or_false, false_and, false_or, and_true, true_and, tt_eq, reduceCtorEq, not_false_eq_true, hC, hF, shr1]
    omega
  · subst h
    have e1 : (bif (!C) then false else (bif (in31 (1 : Int)) then (bif (decide ((1 : Int) = 241)) then true else (bif (decide ((iand .i64 (1 : Int) 1) = 0)) then true else (decide (s < 10)))) else false)) = (bif (!C) then false else (decide (s < 10))) := by kernel_rfl
    have e2 : (bif (!(bif (!(isReg d)) then false else (bif (!(isReg s)) then false else (bif (!(is16 o)) then false else (bif (!(is32 (1 : Int))) then false else (bif (decide ((1 : Int) = 0)) then true else (bif (decide ((1 : Int) = 1)) then true else (bif (decide ((1 : Int) = 64)) then true else (bif (decide ((1 : Int) = 65)) then true else (bif (decide ((1 : Int) = 80)) then true else (bif (decide ((1 : Int) = 81)) then true else (bif (decide ((1 : Int) = 160)) then true else (bif (decide ((1 : Int) = 161)) then true else (bif (decide ((1 : Int) = 225)) then true else (bif (decide ((1 : Int) = 241)) then true else false))))))))))))))) then false else (bif (decide ((bif (decide ((1 : Int) = 241)) then 0 else (bif (decide ((Int.tmod (1 : Int) 2) = 1)) then s else (-1))) = 10)) then false else true)) = (bif (!(bif (!(isReg d)) then false else (bif (!(isReg s)) then false else (bif (!(is16 o)) then false else true)))) then false else (bif (decide (s = 10)) then false else true)) := by kernel_rfl
    refine e1.trans (Eq.trans ?_ e2.symm)
    rw [Bool.eq_iff_iff]
    simp only [cond_iff, cond_iffF, isReg, is16, is32, in31, Bool.and_eq_true, Bool.or_eq_true, Bool.and_eq_false_iff, Bool.or_eq_false_iff, decide_eq_true_eq, decide_eq_false_iff_not, Bool.not_eq_true', Bool.not_eq_false', Bool.false_eq_true, Bool.true_eq_false, and_false, or_false, false_and, false_or, and_true, true_and, tt_eq, reduceCtorEq, not_false_eq_true, hC, hF, shr1]
    omega
  · subst h
    have e1 : (bif (!C) then false else (bif (in31 (64 : Int)) then (bif (decide ((64 : Int) = 241)) then true else (bif (decide ((iand .i64 (64 : Int) 1) = 0)) then true else (decide (s < 10)))) else false)) = (bif (!C) then false else true) := by kernel_rfl
    have e2 : (bif (!(bif (!(isReg d)) then false else (bif (!(isReg s)) then false else (bif (!(is16 o)) then false else (bif (!(is32 (64 : Int))) then false else (bif (decide ((64 : Int) = 0)) then true else (bif (decide ((64 : Int) = 1)) then true else (bif (decide ((64 : Int) = 64)) then true else (bif (decide ((64 : Int) = 65)) then true else (bif (decide ((64 : Int) = 80)) then true else (bif (decide ((64 : Int) = 81)) then true else (bif (decide ((64 : Int) = 160)) then true else (bif (decide ((64 : Int) = 161)) then true else (bif (decide ((64 : Int) = 225)) then true else (bif (decide ((64 : Int) = 241)) then true else false))))))))))))))) then false else (bif (decide ((bif (decide ((64 : Int) = 241)) then 0 else (bif (decide ((Int.tmod (64 : Int) 2) = 1)) then s else (-1))) = 10)) then false else true)) = (bif (!(bif (!(isReg d)) then false else (bif (!(isReg s)) then false else (bif (!(is16 o)) then false else true)))) then false else (bif (decide ((-1) = 10)) then false else true)) := by kernel_rfl
    refine e1.trans (Eq.trans ?_ e2.symm)
    rw [Bool.eq_iff_iff]
    simp only [cond_iff, cond_iffF, isReg, is16, is32, in31, Bool.and_eq_true, Bool.or_eq_true, Bool.and_eq_false_iff, Bool.or_eq_false_iff, decide_eq_true_eq, decide_eq_false_iff_not, Bool.not_eq_true', Bool.not_eq_false', Bool.false_eq_true, Bool.true_eq_false, and_false, or_false, false_and, false_or, and_true, true_and, tt_eq, reduceCtorEq, not_false_eq_true, hC, hF, shr1]
    omega
  · subst h
    have e1 : (bif (!C) then false else (bif (in31 (65 : Int)) then (bif (decide ((65 : Int) = 241)) then true else (bif (decide ((iand .i64 (65 : Int) 1) = 0)) then true else (decide (s < 10)))) else false)) = (bif (!C) then false else (decide (s < 10))) := by kernel_rfl
    have e2 : (bif (!(bif (!(isReg d)) then false else (bif (!(isReg s)) then false else (bif (!(is16 o)) then false else (bif (!(is32 (65 : Int))) then false else (bif (decide ((65 : Int) = 0)) then true else (bif (decide ((65 : Int) = 1)) then true else (bif (decide ((65 : Int) = 64)) then true else (bif (decide ((65 : Int) = 65)) then true else (bif (decide ((65 : Int) = 80)) then true else (bif (decide ((65 : Int) = 81)) then true else (bif (decide ((65 : Int) = 160)) then true else (bif (decide ((65 : Int) = 161)) then true else (bif (decide ((65 : Int) = 225)) then true else (bif (decide ((65 : Int) = 241)) then true else false))))))))))))))) then false else (bif (decide ((bif (decide ((65 : Int) = 241)) then 0 else (bif (decide ((Int.tmod (65 : Int) 2) = 1)) then s else (-1))) = 10)) then false else true)) = (bif (!(bif (!(isReg d)) then false else (bif (!(isReg s)) then false else (bif (!(is16 o)) then false else true)))) then false else (bif (decide (s = 10)) then false else true)) := by kernel_rfl
    refine e1.trans (Eq.trans ?_ e2.symm)
    rw [Bool.eq_iff_iff]
    simp only [cond_iff, cond_iffF, isReg, is16, is32, in31, Bool.and_eq_true, Bool.or_eq_true, Bool.and_eq_false_iff, Bool.or_eq_false_iff, decide_eq_true_eq, decide_eq_false_iff_not, Bool.not_eq_true', Bool.not_eq_false', Bool.false_eq_true, Bool.true_eq_false, and_false, or_false, false_and, false_or, and_true, true_and, tt_eq, reduceCtorEq, not_false_eq_true, hC, hF, shr1]
    omega
  · subst h
    have e1 : (bif (!C) then false else (bif (in31 (80 : Int)) then (bif (decide ((80 : Int) = 241)) then true else (bif (decide ((iand .i64 (80 : Int) 1) = 0)) then true else (decide (s < 10)))) else false)) = (bif (!C) then false else true) := by kernel_rfl
    have e2 : (bif (!(bif (!(isReg d)) then false else (bif (!(isReg s)) then false else (bif (!(is16 o)) then false else (bif (!(is32 (80 : Int))) then false else (bif (decide ((80 : Int) = 0)) then true else (bif (decide ((80 : Int) = 1)) then true else (bif (decide ((80 : Int) = 64)) then true else (bif (decide ((80 : Int) = 65)) then true else (bif (decide ((80 : Int) = 80)) then true else (bif (decide ((80 : Int) = 81)) then true else (bif (decide ((80 : Int) = 160)) then true else (bif (decide ((80 : Int) = 161)) then true else (bif (decide ((80 : Int) = 225)) then true else (bif (decide ((80 : Int) = 241)) then true else false))))))))))))))) then false else (bif (decide ((bif (decide ((80 : Int) = 241)) then 0 else (bif (decide ((Int.tmod (80 : Int) 2) = 1)) then s else (-1))) = 10)) then false else true)) = (bif (!(bif (!(isReg d)) then false else (bif (!(isReg s)) then false else (bif (!(is16 o)) then false else true)))) then false else (bif (decide ((-1) = 10)) then false else true)) := by kernel_rfl
    refine e1.trans (Eq.trans ?_ e2.symm)
    rw [Bool.eq_iff_iff]
    simp only [cond_iff, cond_iffF, isReg, is16, is32, in31, Bool.and_eq_true, Bool.or_eq_true, Bool.and_eq_false_iff, Bool.or_eq_false_iff, decide_eq_true_eq, decide_eq_false_iff_not, Bool.not_eq_true', Bool.not_eq_false', Bool.false_eq_true, Bool.true_eq_false, and_false, or_false, false_and, false_or, and_true, true_and, tt_eq, reduceCtorEq, not_false_eq_true, hC, hF, shr1]
    omega
  · subst h
    have e1 : (bif (!C) then false else (bif (in31 (81 : Int)) then (bif (decide ((81 : Int) = 241)) then true else (bif (decide ((iand .i64 (81 : Int) 1) = 0)) then true else (decide (s < 10)))) else false)) = (bif (!C) then false else (decide (s < 10))) := by kernel_rfl
    have e2 : (bif (!(bif (!(isReg d)) then false else (bif (!(isReg s)) then false else (bif (!(is16 o)) then false else (bif (!(is32 (81 : Int))) then false else (bif (decide ((81 : Int) = 0)) then true else (bif (decide ((81 : Int) = 1)) then true else (bif (decide ((81 : Int) = 64)) then true else (bif (decide ((81 : Int) = 65)) then true else (bif (decide ((81 : Int) = 80)) then true else (bif (decide ((81 : Int) = 81)) then true else (bif (decide ((81 : Int) = 160)) then true else (bif (decide ((81 : Int) = 161)) then true else (bif (decide ((81 : Int) = 225)) then true else (bif (decide ((81 : Int) = 241)) then true else false))))))))))))))) then false else (bif (decide ((bif (decide ((81 : Int) = 241)) then 0 else (bif (decide ((Int.tmod (81 : Int) 2) = 1)) then s else (-1))) = 10)) then false else true)) = (bif (!(bif (!(isReg d)) then false else (bif (!(isReg s)) then false else (bif (!(is16 o)) then false else true)))) then false else (bif (decide (s = 10)) then false else true)) := by kernel_rfl
    refine e1.trans (Eq.trans ?_ e2.symm)
    rw [Bool.eq_iff_iff]
    simp only [cond_iff, cond_iffF, isReg, is16, is32, in31, Bool.and_eq_true, Bool.or_eq_true, Bool.and_eq_false_iff, Bool.or_eq_false_iff, decide_eq_true_eq, decide_eq_false_iff_not, Bool.not_eq_true', Bool.not_eq_false', Bool.false_eq_true, Bool.true_eq_false, and_false, or_false, false_and, false_or, and_true, true_and, tt_eq, reduceCtorEq, not_false_eq_true, hC, hF, shr1]
    omega
  · subst h
    have e1 : (bif (!C) then false else (bif (in31 (160 : Int)) then (bif (decide ((160 : Int) = 241)) then true else (bif (decide ((iand .i64 (160 : Int) 1) = 0)) then true else (decide (s < 10)))) else false)) = (bif (!C) then false else true) := by kernel_rfl
    have e2 : (bif (!(bif (!(isReg d)) then false else (bif (!(isReg s)) then false else (bif (!(is16 o)) then false else (bif (!(is32 (160 : Int))) then false else (bif (decide ((160 : Int) = 0)) then true else (bif (decide ((160 : Int) = 1)) then true else (bif (decide ((160 : Int) = 64)) then true else (bif (decide ((160 : Int) = 65)) then true else (bif (decide ((160 : Int) = 80)) then true else (bif (decide ((160 : Int) = 81)) then true else (bif (decide ((160 : Int) = 160)) then true else (bif (decide ((160 : Int) = 161)) then true else (bif (decide ((160 : Int) = 225)) then true else (bif (decide ((160 : Int) = 241)) then true else false))))))))))))))) then false else (bif (decide ((bif (decide ((160 : Int) = 241)) then 0 else (bif (decide ((Int.tmod (160 : Int) 2) = 1)) then s else (-1))) = 10)) then false else true)) = (bif (!(bif (!(isReg d)) then false else (bif (!(isReg s)) then false else (bif (!(is16 o)) then false else true)))) then false else (bif (decide ((-1) = 10)) then false else true)) := by kernel_rfl
    refine e1.trans (Eq.trans ?_ e2.symm)
    rw [Bool.eq_iff_iff]
    simp only [cond_iff, cond_iffF, isReg, is16, is32, in31, Bool.and_eq_true, Bool.or_eq_true, Bool.and_eq_false_iff, Bool.or_eq_false_iff, decide_eq_true_eq, decide_eq_false_iff_not, Bool.not_eq_true', Bool.not_eq_false', Bool.false_eq_true, Bool.true_eq_false, and_false, or_false, false_and, false_or, and_true, true_and, tt_eq, reduceCtorEq, not_false_eq_true, hC, hF, shr1]
    omega
  · subst h
    have e1 : (bif (!C) then false else (bif (in31 (161 : Int)) then (bif (decide ((161 : Int) = 241)) then true else (bif (decide ((iand .i64 (161 : Int) 1) = 0)) then true else (decide (s < 10)))) else false)) = (bif (!C) then false else (decide (s < 10))) := by kernel_rfl
    have e2 : (bif (!(bif (!(isReg d)) then false else (bif (!(isReg s)) then false else (bif (!(is16 o)) then false else (bif (!(is32 (161 : Int))) then false else (bif (decide ((161 : Int) = 0)) then true else (bif (decide ((161 : Int) = 1)) then true else (bif (decide ((161 : Int) = 64)) then true else (bif (decide ((161 : Int) = 65)) then true else (bif (decide ((161 : Int) = 80)) then true else (bif (decide ((161 : Int) = 81)) then true else (bif (decide ((161 : Int) = 160)) then true else (bif (decide ((161 : Int) = 161)) then true else (bif (decide ((161 : Int) = 225)) then true else (bif (decide ((161 : Int) = 241)) then true else false))))))))))))))) then false else (bif (decide ((bif (decide ((161 : Int) = 241)) then 0 else (bif (decide ((Int.tmod (161 : Int) 2) = 1)) then s else (-1))) = 10)) then false else true)) = (bif (!(bif (!(isReg d)) then false else (bif (!(isReg s)) then false else (bif (!(is16 o)) then false else true)))) then false else (bif (decide (s = 10)) then false else true)) := by kernel_rfl
    refine e1.trans (Eq.trans ?_ e2.symm)
    rw [Bool.eq_iff_iff]
    simp only [cond_iff, cond_iffF, isReg, is16, is32, in31, Bool.and_eq_true, Bool.or_eq_true, Bool.and_eq_false_iff, Bool.or_eq_false_iff, decide_eq_true_eq, decide_eq_false_iff_not, Bool.not_eq_true', Bool.not_eq_false', Bool.false_eq_true, Bool.true_eq_false, and_false, or_false, false_and, false_or, and_true, true_and, tt_eq, reduceCtorEq, not_false_eq_true, hC, hF, shr1]
    omega
  · subst h
    have e1 : (bif (!C) then false else (bif (in31 (225 : Int)) then (bif (decide ((225 : Int) = 241)) then true else (bif (decide ((iand .i64 (225 : Int) 1) = 0)) then true else (decide (s < 10)))) else false)) = (bif (!C) then false else (decide (s < 10))) := by kernel_rfl
    have e2 : (bif (!(bif (!(isReg d)) then false else (bif (!(isReg s)) then false else (bif (!(is16 o)) then false else (bif (!(is32 (225 : Int))) then false else (bif (decide ((225 : Int) = 0)) then true else (bif (decide ((225 : Int) = 1)) then true else (bif (decide ((225 : Int) = 64)) then true else (bif (decide ((225 : Int) = 65)) then true else (bif (decide ((225 : Int) = 80)) then true else (bif (decide ((225 : Int) = 81)) then true else (bif (decide ((225 : Int) = 160)) then true else (bif (decide ((225 : Int) = 161)) then true else (bif (decide ((225 : Int) = 225)) then true else (bif (decide ((225 : Int) = 241)) then true else false))))))))))))))) then false else (bif (decide ((bif (decide ((225 : Int) = 241)) then 0 else (bif (decide ((Int.tmod (225 : Int) 2) = 1)) then s else (-1))) = 10)) then false else true)) = (bif (!(bif (!(isReg d)) then false else (bif (!(isReg s)) then false else (bif (!(is16 o)) then false else true)))) then false else (bif (decide (s = 10)) then false else true)) := by kernel_rfl
    refine e1.trans (Eq.trans ?_ e2.symm)
    rw [Bool.eq_iff_iff]
    simp only [cond_iff, cond_iffF, isReg, is16, is32, in31, Bool.and_eq_true, Bool.or_eq_true, Bool.and_eq_false_iff, Bool.or_eq_false_iff, decide_eq_true_eq, decide_eq_false_iff_not, Bool.not_eq_true', Bool.not_eq_false', Bool.false_eq_true, Bool.true_eq_false, and_false, or_false, false_and, false_or, and_true, true_and, tt_eq, reduceCtorEq, not_false_eq_true, hC, hF, shr1]
    omega
  · subst h
    have e1 : (bif (!C) then false else (bif (in31 (241 : Int)) then (bif (decide ((241 : Int) = 241)) then true else (bif (decide ((iand .i64 (241 : Int) 1) = 0)) then true else (decide (s < 10)))) else false)) = (bif (!C) then false else true) := by kernel_rfl
    have e2 : (bif (!(bif (!(isReg d)) then false else (bif (!(isReg s)) then false else (bif (!(is16 o)) then false else (bif (!(is32 (241 : Int))) then false else (bif (decide ((241 : Int) = 0)) then true else (bif (decide ((241 : Int) = 1)) then true else (bif (decide ((241 : Int) = 64)) then true else (bif (decide ((241 : Int) = 65)) then true else (bif (decide ((241 : Int) = 80)) then true else (bif (decide ((241 : Int) = 81)) then true else (bif (decide ((241 : Int) = 160)) then true else (bif (decide ((241 : Int) = 161)) then true else (bif (decide ((241 : Int) = 225)) then true else (bif (decide ((241 : Int) = 241)) then true else false))))))))))))))) then false else (bif (decide ((bif (decide ((241 : Int) = 241)) then 0 else (bif (decide ((Int.tmod (241 : Int) 2) = 1)) then s else (-1))) = 10)) then false else true)) = (bif (!(bif (!(isReg d)) then false else (bif (!(isReg s)) then false else (bif (!(is16 o)) then false else true)))) then false else (bif (decide (0 = 10)) then false else true)) := by kernel_rfl
    refine e1.trans (Eq.trans ?_ e2.symm)
    rw [Bool.eq_iff_iff]
    simp only [cond_iff, cond_iffF, isReg, is16, is32, in31, Bool.and_eq_true, Bool.or_eq_true, Bool.and_eq_false_iff, Bool.or_eq_false_iff, decide_eq_true_eq, decide_eq_false_iff_not, Bool.not_eq_true', Bool.not_eq_false', Bool.false_eq_true, Bool.true_eq_false, and_false, or_false, false_and, false_or, and_true, true_and, tt_eq, reduceCtorEq, not_false_eq_true, hC, hF, shr1]
    omega
  · simp only [hx, decide_eq_false h0, decide_eq_false h1, decide_eq_false h64, decide_eq_false h65, decide_eq_false h80, decide_eq_false h81, decide_eq_false h160, decide_eq_false h161, decide_eq_false h225, decide_eq_false h241]
    cases C <;> cases isReg d <;> cases isReg s <;> cases is16 o <;> cases is32 m <;> rfl
/- [212, 215, 220] -/
theorem g26 (d s o m : Int) (C : Bool) (hC : C = true ↔ (0 ≤ d ∧ d ≤ 10) ∧ (0 ≤ s ∧ s ≤ 10) ∧ (-32768 ≤ o ∧ o ≤ 32767) ∧ (-2147483648 ≤ m ∧ m ≤ 2147483647)) : (bif (!C) then false else (bif (decide (d = 10)) then false else (bif (decide (s = 0)) then (bif (decide (o = 0)) then (bif (decide (m = 16)) then true else (bif (decide (m = 32)) then true else (decide (m = 64)))) else false) else false))) = (bif (!(bif (!(isReg d)) then false else (bif (!(isReg s)) then false else (bif (!(decide (s = 0))) then false else (bif (!(decide (o = 0))) then false else (bif (!(decide (m = 16))) then (bif (!(decide (m = 32))) then (bif (!(decide (m = 64))) then false else true) else true) else true)))))) then false else (bif (decide (d = 10)) then false else true)) := by
  have hF : C = false ↔ ¬ ((0 ≤ d ∧ d ≤ 10) ∧ (0 ≤ s ∧ s ≤ 10) ∧ (-32768 ≤ o ∧ o ≤ 32767) ∧ (-2147483648 ≤ m ∧ m ≤ 2147483647)) := by rw [← hC]; cases C <;> simp
  rw [Bool.eq_iff_iff]
  simp only [cond_iff, cond_iffF, isReg, is16, is32, in31, Bool.and_eq_true, Bool.or_eq_true, Bool.and_eq_false_iff, Bool.or_eq_false_iff, decide_eq_true_eq, decide_eq_false_iff_not, Bool.not_eq_true', Bool.not_eq_false', Bool.false_eq_true, Bool.true_eq_false, and_false, or_false, false_and, false_or, and_true, true_and, tt_eq, reduceCtorEq, not_false_eq_true, hC, hF, shr1]
  try omega
/- [228, 231, 244, 247] -/
theorem g27 (d s o m : Int) (C : Bool) (hC : C = true ↔ (0 ≤ d ∧ d ≤ 10) ∧ (0 ≤ s ∧ s ≤ 10) ∧ (-32768 ≤ o ∧ o ≤ 32767) ∧ (-2147483648 ≤ m ∧ m ≤ 2147483647)) : (bif (!C) then false else (bif (decide (d = 10)) then false else false)) = (bif (!(bif (!(isReg d)) then false else (bif (!(isReg s)) then false else (bif (!(decide (s = 0))) then false else (bif (!(is32 m)) then false else (bif (!(decide (o = 0))) then (bif (decide (o = 1)) then false else false) else false)))))) then false else (bif (decide (d = 10)) then false else true)) := by
  have hF : C = false ↔ ¬ ((0 ≤ d ∧ d ≤ 10) ∧ (0 ≤ s ∧ s ≤ 10) ∧ (-32768 ≤ o ∧ o ≤ 32767) ∧ (-2147483648 ≤ m ∧ m ≤ 2147483647)) := by rw [← hC]; cases C <;> simp
  rw [Bool.eq_iff_iff]
  simp only [cond_iff, cond_iffF, isReg, is16, is32, in31, Bool.and_eq_true, Bool.or_eq_true, Bool.and_eq_false_iff, Bool.or_eq_false_iff, decide_eq_true_eq, decide_eq_false_iff_not, Bool.not_eq_true', Bool.not_eq_false', Bool.false_eq_true, Bool.true_eq_false, and_false, or_false, false_and, false_or, and_true, true_and, tt_eq, reduceCtorEq, not_false_eq_true, hC, hF, shr1]
  try omega
/- [236, 239, 252, 255] -/
theorem g28 (d s o m : Int) (C : Bool) (hC : C = true ↔ (0 ≤ d ∧ d ≤ 10) ∧ (0 ≤ s ∧ s ≤ 10) ∧ (-32768 ≤ o ∧ o ≤ 32767) ∧ (-2147483648 ≤ m ∧ m ≤ 2147483647)) : (bif (!C) then false else (bif (decide (d = 10)) then false else false)) = (bif (!(bif (!(isReg d)) then false else (bif (!(isReg s)) then false else (bif (!(decide (m = 0))) then false else (bif (!(is32 m)) then false else (bif (!(decide (o = 0))) then (bif (decide (o = 1)) then false else false) else false)))))) then false else (bif (decide (d = 10)) then false else true)) := by
  have hF : C = false ↔ ¬ ((0 ≤ d ∧ d ≤ 10) ∧ (0 ≤ s ∧ s ≤ 10) ∧ (-32768 ≤ o ∧ o ≤ 32767) ∧ (-2147483648 ≤ m ∧ m ≤ 2147483647)) := by rw [← hC]; cases C <;> simp
  rw [Bool.eq_iff_iff]
  simp only [cond_iff, cond_iffF, isReg, is16, is32, in31, Bool.and_eq_true, Bool.or_eq_true, Bool.and_eq_false_iff, Bool.or_eq_false_iff, decide_eq_true_eq, decide_eq_false_iff_not, Bool.not_eq_true', Bool.not_eq_false', Bool.false_eq_true, Bool.true_eq_false, and_false, or_false, false_and, false_or, and_true, true_and, tt_eq, reduceCtorEq, not_false_eq_true, hC, hF, shr1]
  try omega
abbrev PX (n : Int) : Prop := ∀ d s o m : Int, c17 (n, d, s, o, m, ()) = c33 (n, d, s, o, m, ())
theorem hc (n d s o m : Int) (h : 0 ≤ n ∧ n ≤ 255) : c27 (n, d, s, o, m, ()) = true ↔ (0 ≤ d ∧ d ≤ 10) ∧ (0 ≤ s ∧ s ≤ 10) ∧ (-32768 ≤ o ∧ o ≤ 32767) ∧ (-2147483648 ≤ m ∧ m ≤ 2147483647) := (c27_iff (n, d, s, o, m, ())).trans (by dsimp only; omega)
theorem a0 : PX 0 := fun d s o m => Eq.trans (by kernel_rfl) (Eq.trans (g0 d s o m (c27 (0, d, s, o, m, ())) (hc 0 d s o m (by omega))) (by kernel_rfl))
theorem a1 : PX 1 := fun d s o m => Eq.trans (by kernel_rfl) (Eq.trans (g1 d s o m (c27 (1, d, s, o, m, ())) (hc 1 d s o m (by omega))) (by kernel_rfl))
theorem a2 : PX 2 := fun d s o m => Eq.trans (by kernel_rfl) (Eq.trans (g2 d s o m (c27 (2, d, s, o, m, ())) (hc 2 d s o m (by omega))) (by kernel_rfl))
theorem a3 : PX 3 := fun d s o m => Eq.trans (by kernel_rfl) (Eq.trans (g2 d s o m (c27 (3, d, s, o, m, ())) (hc 3 d s o m (by omega))) (by kernel_rfl))
theorem a4 : PX 4 := fun d s o m => Eq.trans (by kernel_rfl) (Eq.trans (g3 d s o m (c27 (4, d, s, o, m, ())) (hc 4 d s o m (by omega))) (by kernel_rfl))
theorem a5 : PX 5 := fun d s o m => Eq.trans (by kernel_rfl) (Eq.trans (g4 d s o m (c27 (5, d, s, o, m, ())) (hc 5 d s o m (by omega))) (by kernel_rfl))
theorem a6 : PX 6 := fun d s o m => Eq.trans (by kernel_rfl) (Eq.trans (g5 d s o m (c27 (6, d, s, o, m, ())) (hc 6 d s o m (by omega))) (by kernel_rfl))
theorem a7 : PX 7 := fun d s o m => Eq.trans (by kernel_rfl) (Eq.trans (g3 d s o m (c27 (7, d, s, o, m, ())) (hc 7 d s o m (by omega))) (by kernel_rfl))
theorem a8 : PX 8 := fun d s o m => Eq.trans (by kernel_rfl) (Eq.trans (g0 d s o m (c27 (8, d, s, o, m, ())) (hc 8 d s o m (by omega))) (by kernel_rfl))
theorem a9 : PX 9 := fun d s o m => Eq.trans (by kernel_rfl) (Eq.trans (g1 d s o m (c27 (9, d, s, o, m, ())) (hc 9 d s o m (by omega))) (by kernel_rfl))
theorem a10 : PX 10 := fun d s o m => Eq.trans (by kernel_rfl) (Eq.trans (g2 d s o m (c27 (10, d, s, o, m, ())) (hc 10 d s o m (by omega))) (by kernel_rfl))
theorem a11 : PX 11 := fun d s o m => Eq.trans (by kernel_rfl) (Eq.trans (g2 d s o m (c27 (11, d, s, o, m, ())) (hc 11 d s o m (by omega))) (by kernel_rfl))
theorem a12 : PX 12 := fun d s o m => Eq.trans (by kernel_rfl) (Eq.trans (g6 d s o m (c27 (12, d, s, o, m, ())) (hc 12 d s o m (by omega))) (by kernel_rfl))
theorem a13 : PX 13 := fun d s o m => Eq.trans (by kernel_rfl) (Eq.trans (g5 d s o m (c27 (13, d, s, o, m, ())) (hc 13 d s o m (by omega))) (by kernel_rfl))
theorem a14 : PX 14 := fun d s o m => Eq.trans (by kernel_rfl) (Eq.trans (g5 d s o m (c27 (14, d, s, o, m, ())) (hc 14 d s o m (by omega))) (by kernel_rfl))
theorem a15 : PX 15 := fun d s o m => Eq.trans (by kernel_rfl) (Eq.trans (g6 d s o m (c27 (15, d, s, o, m, ())) (hc 15 d s o m (by omega))) (by kernel_rfl))
theorem a16 : PX 16 := fun d s o m => Eq.trans (by kernel_rfl) (Eq.trans (g0 d s o m (c27 (16, d, s, o, m, ())) (hc 16 d s o m (by omega))) (by kernel_rfl))
theorem a17 : PX 17 := fun d s o m => Eq.trans (by kernel_rfl) (Eq.trans (g1 d s o m (c27 (17, d, s, o, m, ())) (hc 17 d s o m (by omega))) (by kernel_rfl))
theorem a18 : PX 18 := fun d s o m => Eq.trans (by kernel_rfl) (Eq.trans (g2 d s o m (c27 (18, d, s, o, m, ())) (hc 18 d s o m (by omega))) (by kernel_rfl))
theorem a19 : PX 19 := fun d s o m => Eq.trans (by kernel_rfl) (Eq.trans (g2 d s o m (c27 (19, d, s, o, m, ())) (hc 19 d s o m (by omega))) (by kernel_rfl))
theorem a20 : PX 20 := fun d s o m => Eq.trans (by kernel_rfl) (Eq.trans (g3 d s o m (c27 (20, d, s, o, m, ())) (hc 20 d s o m (by omega))) (by kernel_rfl))
theorem a21 : PX 21 := fun d s o m => Eq.trans (by kernel_rfl) (Eq.trans (g7 d s o m (c27 (21, d, s, o, m, ())) (hc 21 d s o m (by omega))) (by kernel_rfl))
theorem a22 : PX 22 := fun d s o m => Eq.trans (by kernel_rfl) (Eq.trans (g7 d s o m (c27 (22, d, s, o, m, ())) (hc 22 d s o m (by omega))) (by kernel_rfl))
theorem a23 : PX 23 := fun d s o m => Eq.trans (by kernel_rfl) (Eq.trans (g3 d s o m (c27 (23, d, s, o, m, ())) (hc 23 d s o m (by omega))) (by kernel_rfl))
theorem a24 : PX 24 := fun d s o m => Eq.trans (by kernel_rfl) (Eq.trans (g8 d s o m (c27 (24, d, s, o, m, ())) (hc 24 d s o m (by omega))) (by kernel_rfl))
theorem a25 : PX 25 := fun d s o m => Eq.trans (by kernel_rfl) (Eq.trans (g1 d s o m (c27 (25, d, s, o, m, ())) (hc 25 d s o m (by omega))) (by kernel_rfl))
theorem a26 : PX 26 := fun d s o m => Eq.trans (by kernel_rfl) (Eq.trans (g2 d s o m (c27 (26, d, s, o, m, ())) (hc 26 d s o m (by omega))) (by kernel_rfl))
theorem a27 : PX 27 := fun d s o m => Eq.trans (by kernel_rfl) (Eq.trans (g2 d s o m (c27 (27, d, s, o, m, ())) (hc 27 d s o m (by omega))) (by kernel_rfl))
theorem a28 : PX 28 := fun d s o m => Eq.trans (by kernel_rfl) (Eq.trans (g6 d s o m (c27 (28, d, s, o, m, ())) (hc 28 d s o m (by omega))) (by kernel_rfl))
theorem a29 : PX 29 := fun d s o m => Eq.trans (by kernel_rfl) (Eq.trans (g9 d s o m (c27 (29, d, s, o, m, ())) (hc 29 d s o m (by omega))) (by kernel_rfl))
theorem a30 : PX 30 := fun d s o m => Eq.trans (by kernel_rfl) (Eq.trans (g9 d s o m (c27 (30, d, s, o, m, ())) (hc 30 d s o m (by omega))) (by kernel_rfl))
theorem a31 : PX 31 := fun d s o m => Eq.trans (by kernel_rfl) (Eq.trans (g6 d s o m (c27 (31, d, s, o, m, ())) (hc 31 d s o m (by omega))) (by kernel_rfl))
theorem a32 : PX 32 := fun d s o m => Eq.trans (by kernel_rfl) (Eq.trans (g0 d s o m (c27 (32, d, s, o, m, ())) (hc 32 d s o m (by omega))) (by kernel_rfl))
theorem a33 : PX 33 := fun d s o m => Eq.trans (by kernel_rfl) (Eq.trans (g1 d s o m (c27 (33, d, s, o, m, ())) (hc 33 d s o m (by omega))) (by kernel_rfl))
theorem a34 : PX 34 := fun d s o m => Eq.trans (by kernel_rfl) (Eq.trans (g2 d s o m (c27 (34, d, s, o, m, ())) (hc 34 d s o m (by omega))) (by kernel_rfl))
theorem a35 : PX 35 := fun d s o m => Eq.trans (by kernel_rfl) (Eq.trans (g2 d s o m (c27 (35, d, s, o, m, ())) (hc 35 d s o m (by omega))) (by kernel_rfl))
theorem a36 : PX 36 := fun d s o m => Eq.trans (by kernel_rfl) (Eq.trans (g3 d s o m (c27 (36, d, s, o, m, ())) (hc 36 d s o m (by omega))) (by kernel_rfl))
theorem a37 : PX 37 := fun d s o m => Eq.trans (by kernel_rfl) (Eq.trans (g7 d s o m (c27 (37, d, s, o, m, ())) (hc 37 d s o m (by omega))) (by kernel_rfl))
theorem a38 : PX 38 := fun d s o m => Eq.trans (by kernel_rfl) (Eq.trans (g7 d s o m (c27 (38, d, s, o, m, ())) (hc 38 d s o m (by omega))) (by kernel_rfl))
theorem a39 : PX 39 := fun d s o m => Eq.trans (by kernel_rfl) (Eq.trans (g3 d s o m (c27 (39, d, s, o, m, ())) (hc 39 d s o m (by omega))) (by kernel_rfl))
theorem a40 : PX 40 := fun d s o m => Eq.trans (by kernel_rfl) (Eq.trans (g0 d s o m (c27 (40, d, s, o, m, ())) (hc 40 d s o m (by omega))) (by kernel_rfl))
theorem a41 : PX 41 := fun d s o m => Eq.trans (by kernel_rfl) (Eq.trans (g1 d s o m (c27 (41, d, s, o, m, ())) (hc 41 d s o m (by omega))) (by kernel_rfl))
theorem a42 : PX 42 := fun d s o m => Eq.trans (by kernel_rfl) (Eq.trans (g2 d s o m (c27 (42, d, s, o, m, ())) (hc 42 d s o m (by omega))) (by kernel_rfl))
theorem a43 : PX 43 := fun d s o m => Eq.trans (by kernel_rfl) (Eq.trans (g2 d s o m (c27 (43, d, s, o, m, ())) (hc 43 d s o m (by omega))) (by kernel_rfl))
theorem a44 : PX 44 := fun d s o m => Eq.trans (by kernel_rfl) (Eq.trans (g6 d s o m (c27 (44, d, s, o, m, ())) (hc 44 d s o m (by omega))) (by kernel_rfl))
theorem a45 : PX 45 := fun d s o m => Eq.trans (by kernel_rfl) (Eq.trans (g9 d s o m (c27 (45, d, s, o, m, ())) (hc 45 d s o m (by omega))) (by kernel_rfl))
theorem a46 : PX 46 := fun d s o m => Eq.trans (by kernel_rfl) (Eq.trans (g9 d s o m (c27 (46, d, s, o, m, ())) (hc 46 d s o m (by omega))) (by kernel_rfl))
theorem a47 : PX 47 := fun d s o m => Eq.trans (by kernel_rfl) (Eq.trans (g6 d s o m (c27 (47, d, s, o, m, ())) (hc 47 d s o m (by omega))) (by kernel_rfl))
theorem a48 : PX 48 := fun d s o m => Eq.trans (by kernel_rfl) (Eq.trans (g0 d s o m (c27 (48, d, s, o, m, ())) (hc 48 d s o m (by omega))) (by kernel_rfl))
theorem a49 : PX 49 := fun d s o m => Eq.trans (by kernel_rfl) (Eq.trans (g1 d s o m (c27 (49, d, s, o, m, ())) (hc 49 d s o m (by omega))) (by kernel_rfl))
theorem a50 : PX 50 := fun d s o m => Eq.trans (by kernel_rfl) (Eq.trans (g2 d s o m (c27 (50, d, s, o, m, ())) (hc 50 d s o m (by omega))) (by kernel_rfl))
theorem a51 : PX 51 := fun d s o m => Eq.trans (by kernel_rfl) (Eq.trans (g2 d s o m (c27 (51, d, s, o, m, ())) (hc 51 d s o m (by omega))) (by kernel_rfl))
theorem a52 : PX 52 := fun d s o m => Eq.trans (by kernel_rfl) (Eq.trans (g10 d s o m (c27 (52, d, s, o, m, ())) (hc 52 d s o m (by omega))) (by kernel_rfl))
theorem a53 : PX 53 := fun d s o m => Eq.trans (by kernel_rfl) (Eq.trans (g7 d s o m (c27 (53, d, s, o, m, ())) (hc 53 d s o m (by omega))) (by kernel_rfl))
theorem a54 : PX 54 := fun d s o m => Eq.trans (by kernel_rfl) (Eq.trans (g7 d s o m (c27 (54, d, s, o, m, ())) (hc 54 d s o m (by omega))) (by kernel_rfl))
theorem a55 : PX 55 := fun d s o m => Eq.trans (by kernel_rfl) (Eq.trans (g10 d s o m (c27 (55, d, s, o, m, ())) (hc 55 d s o m (by omega))) (by kernel_rfl))
theorem a56 : PX 56 := fun d s o m => Eq.trans (by kernel_rfl) (Eq.trans (g0 d s o m (c27 (56, d, s, o, m, ())) (hc 56 d s o m (by omega))) (by kernel_rfl))
theorem a57 : PX 57 := fun d s o m => Eq.trans (by kernel_rfl) (Eq.trans (g1 d s o m (c27 (57, d, s, o, m, ())) (hc 57 d s o m (by omega))) (by kernel_rfl))
theorem a58 : PX 58 := fun d s o m => Eq.trans (by kernel_rfl) (Eq.trans (g2 d s o m (c27 (58, d, s, o, m, ())) (hc 58 d s o m (by omega))) (by kernel_rfl))
theorem a59 : PX 59 := fun d s o m => Eq.trans (by kernel_rfl) (Eq.trans (g2 d s o m (c27 (59, d, s, o, m, ())) (hc 59 d s o m (by omega))) (by kernel_rfl))
theorem a60 : PX 60 := fun d s o m => Eq.trans (by kernel_rfl) (Eq.trans (g11 d s o m (c27 (60, d, s, o, m, ())) (hc 60 d s o m (by omega))) (by kernel_rfl))
theorem a61 : PX 61 := fun d s o m => Eq.trans (by kernel_rfl) (Eq.trans (g9 d s o m (c27 (61, d, s, o, m, ())) (hc 61 d s o m (by omega))) (by kernel_rfl))
theorem a62 : PX 62 := fun d s o m => Eq.trans (by kernel_rfl) (Eq.trans (g9 d s o m (c27 (62, d, s, o, m, ())) (hc 62 d s o m (by omega))) (by kernel_rfl))
theorem a63 : PX 63 := fun d s o m => Eq.trans (by kernel_rfl) (Eq.trans (g11 d s o m (c27 (63, d, s, o, m, ())) (hc 63 d s o m (by omega))) (by kernel_rfl))
theorem a64 : PX 64 := fun d s o m => Eq.trans (by kernel_rfl) (Eq.trans (g0 d s o m (c27 (64, d, s, o, m, ())) (hc 64 d s o m (by omega))) (by kernel_rfl))
theorem a65 : PX 65 := fun d s o m => Eq.trans (by kernel_rfl) (Eq.trans (g1 d s o m (c27 (65, d, s, o, m, ())) (hc 65 d s o m (by omega))) (by kernel_rfl))
theorem a66 : PX 66 := fun d s o m => Eq.trans (by kernel_rfl) (Eq.trans (g2 d s o m (c27 (66, d, s, o, m, ())) (hc 66 d s o m (by omega))) (by kernel_rfl))
theorem a67 : PX 67 := fun d s o m => Eq.trans (by kernel_rfl) (Eq.trans (g2 d s o m (c27 (67, d, s, o, m, ())) (hc 67 d s o m (by omega))) (by kernel_rfl))
theorem a68 : PX 68 := fun d s o m => Eq.trans (by kernel_rfl) (Eq.trans (g3 d s o m (c27 (68, d, s, o, m, ())) (hc 68 d s o m (by omega))) (by kernel_rfl))
theorem a69 : PX 69 := fun d s o m => Eq.trans (by kernel_rfl) (Eq.trans (g7 d s o m (c27 (69, d, s, o, m, ())) (hc 69 d s o m (by omega))) (by kernel_rfl))
theorem a70 : PX 70 := fun d s o m => Eq.trans (by kernel_rfl) (Eq.trans (g7 d s o m (c27 (70, d, s, o, m, ())) (hc 70 d s o m (by omega))) (by kernel_rfl))
theorem a71 : PX 71 := fun d s o m => Eq.trans (by kernel_rfl) (Eq.trans (g3 d s o m (c27 (71, d, s, o, m, ())) (hc 71 d s o m (by omega))) (by kernel_rfl))
theorem a72 : PX 72 := fun d s o m => Eq.trans (by kernel_rfl) (Eq.trans (g0 d s o m (c27 (72, d, s, o, m, ())) (hc 72 d s o m (by omega))) (by kernel_rfl))
theorem a73 : PX 73 := fun d s o m => Eq.trans (by kernel_rfl) (Eq.trans (g1 d s o m (c27 (73, d, s, o, m, ())) (hc 73 d s o m (by omega))) (by kernel_rfl))
theorem a74 : PX 74 := fun d s o m => Eq.trans (by kernel_rfl) (Eq.trans (g2 d s o m (c27 (74, d, s, o, m, ())) (hc 74 d s o m (by omega))) (by kernel_rfl))
theorem a75 : PX 75 := fun d s o m => Eq.trans (by kernel_rfl) (Eq.trans (g2 d s o m (c27 (75, d, s, o, m, ())) (hc 75 d s o m (by omega))) (by kernel_rfl))
theorem a76 : PX 76 := fun d s o m => Eq.trans (by kernel_rfl) (Eq.trans (g6 d s o m (c27 (76, d, s, o, m, ())) (hc 76 d s o m (by omega))) (by kernel_rfl))
theorem a77 : PX 77 := fun d s o m => Eq.trans (by kernel_rfl) (Eq.trans (g9 d s o m (c27 (77, d, s, o, m, ())) (hc 77 d s o m (by omega))) (by kernel_rfl))
theorem a78 : PX 78 := fun d s o m => Eq.trans (by kernel_rfl) (Eq.trans (g9 d s o m (c27 (78, d, s, o, m, ())) (hc 78 d s o m (by omega))) (by kernel_rfl))
theorem a79 : PX 79 := fun d s o m => Eq.trans (by kernel_rfl) (Eq.trans (g6 d s o m (c27 (79, d, s, o, m, ())) (hc 79 d s o m (by omega))) (by kernel_rfl))
theorem a80 : PX 80 := fun d s o m => Eq.trans (by kernel_rfl) (Eq.trans (g0 d s o m (c27 (80, d, s, o, m, ())) (hc 80 d s o m (by omega))) (by kernel_rfl))
theorem a81 : PX 81 := fun d s o m => Eq.trans (by kernel_rfl) (Eq.trans (g1 d s o m (c27 (81, d, s, o, m, ())) (hc 81 d s o m (by omega))) (by kernel_rfl))
theorem a82 : PX 82 := fun d s o m => Eq.trans (by kernel_rfl) (Eq.trans (g2 d s o m (c27 (82, d, s, o, m, ())) (hc 82 d s o m (by omega))) (by kernel_rfl))
theorem a83 : PX 83 := fun d s o m => Eq.trans (by kernel_rfl) (Eq.trans (g2 d s o m (c27 (83, d, s, o, m, ())) (hc 83 d s o m (by omega))) (by kernel_rfl))
theorem a84 : PX 84 := fun d s o m => Eq.trans (by kernel_rfl) (Eq.trans (g3 d s o m (c27 (84, d, s, o, m, ())) (hc 84 d s o m (by omega))) (by kernel_rfl))
theorem a85 : PX 85 := fun d s o m => Eq.trans (by kernel_rfl) (Eq.trans (g7 d s o m (c27 (85, d, s, o, m, ())) (hc 85 d s o m (by omega))) (by kernel_rfl))
theorem a86 : PX 86 := fun d s o m => Eq.trans (by kernel_rfl) (Eq.trans (g7 d s o m (c27 (86, d, s, o, m, ())) (hc 86 d s o m (by omega))) (by kernel_rfl))
theorem a87 : PX 87 := fun d s o m => Eq.trans (by kernel_rfl) (Eq.trans (g3 d s o m (c27 (87, d, s, o, m, ())) (hc 87 d s o m (by omega))) (by kernel_rfl))
theorem a88 : PX 88 := fun d s o m => Eq.trans (by kernel_rfl) (Eq.trans (g0 d s o m (c27 (88, d, s, o, m, ())) (hc 88 d s o m (by omega))) (by kernel_rfl))
theorem a89 : PX 89 := fun d s o m => Eq.trans (by kernel_rfl) (Eq.trans (g1 d s o m (c27 (89, d, s, o, m, ())) (hc 89 d s o m (by omega))) (by kernel_rfl))
theorem a90 : PX 90 := fun d s o m => Eq.trans (by kernel_rfl) (Eq.trans (g2 d s o m (c27 (90, d, s, o, m, ())) (hc 90 d s o m (by omega))) (by kernel_rfl))
theorem a91 : PX 91 := fun d s o m => Eq.trans (by kernel_rfl) (Eq.trans (g2 d s o m (c27 (91, d, s, o, m, ())) (hc 91 d s o m (by omega))) (by kernel_rfl))
theorem a92 : PX 92 := fun d s o m => Eq.trans (by kernel_rfl) (Eq.trans (g6 d s o m (c27 (92, d, s, o, m, ())) (hc 92 d s o m (by omega))) (by kernel_rfl))
theorem a93 : PX 93 := fun d s o m => Eq.trans (by kernel_rfl) (Eq.trans (g9 d s o m (c27 (93, d, s, o, m, ())) (hc 93 d s o m (by omega))) (by kernel_rfl))
theorem a94 : PX 94 := fun d s o m => Eq.trans (by kernel_rfl) (Eq.trans (g9 d s o m (c27 (94, d, s, o, m, ())) (hc 94 d s o m (by omega))) (by kernel_rfl))
theorem a95 : PX 95 := fun d s o m => Eq.trans (by kernel_rfl) (Eq.trans (g6 d s o m (c27 (95, d, s, o, m, ())) (hc 95 d s o m (by omega))) (by kernel_rfl))
theorem a96 : PX 96 := fun d s o m => Eq.trans (by kernel_rfl) (Eq.trans (g0 d s o m (c27 (96, d, s, o, m, ())) (hc 96 d s o m (by omega))) (by kernel_rfl))
theorem a97 : PX 97 := fun d s o m => Eq.trans (by kernel_rfl) (Eq.trans (g12 d s o m (c27 (97, d, s, o, m, ())) (hc 97 d s o m (by omega))) (by kernel_rfl))
theorem a98 : PX 98 := fun d s o m => Eq.trans (by kernel_rfl) (Eq.trans (g13 d s o m (c27 (98, d, s, o, m, ())) (hc 98 d s o m (by omega))) (by kernel_rfl))
theorem a99 : PX 99 := fun d s o m => Eq.trans (by kernel_rfl) (Eq.trans (g14 d s o m (c27 (99, d, s, o, m, ())) (hc 99 d s o m (by omega))) (by kernel_rfl))
theorem a100 : PX 100 := fun d s o m => Eq.trans (by kernel_rfl) (Eq.trans (g15 d s o m (c27 (100, d, s, o, m, ())) (hc 100 d s o m (by omega))) (by kernel_rfl))
theorem a101 : PX 101 := fun d s o m => Eq.trans (by kernel_rfl) (Eq.trans (g7 d s o m (c27 (101, d, s, o, m, ())) (hc 101 d s o m (by omega))) (by kernel_rfl))
theorem a102 : PX 102 := fun d s o m => Eq.trans (by kernel_rfl) (Eq.trans (g7 d s o m (c27 (102, d, s, o, m, ())) (hc 102 d s o m (by omega))) (by kernel_rfl))
theorem a103 : PX 103 := fun d s o m => Eq.trans (by kernel_rfl) (Eq.trans (g16 d s o m (c27 (103, d, s, o, m, ())) (hc 103 d s o m (by omega))) (by kernel_rfl))
theorem a104 : PX 104 := fun d s o m => Eq.trans (by kernel_rfl) (Eq.trans (g0 d s o m (c27 (104, d, s, o, m, ())) (hc 104 d s o m (by omega))) (by kernel_rfl))
theorem a105 : PX 105 := fun d s o m => Eq.trans (by kernel_rfl) (Eq.trans (g12 d s o m (c27 (105, d, s, o, m, ())) (hc 105 d s o m (by omega))) (by kernel_rfl))
theorem a106 : PX 106 := fun d s o m => Eq.trans (by kernel_rfl) (Eq.trans (g13 d s o m (c27 (106, d, s, o, m, ())) (hc 106 d s o m (by omega))) (by kernel_rfl))
theorem a107 : PX 107 := fun d s o m => Eq.trans (by kernel_rfl) (Eq.trans (g14 d s o m (c27 (107, d, s, o, m, ())) (hc 107 d s o m (by omega))) (by kernel_rfl))
theorem a108 : PX 108 := fun d s o m => Eq.trans (by kernel_rfl) (Eq.trans (g17 d s o m (c27 (108, d, s, o, m, ())) (hc 108 d s o m (by omega))) (by kernel_rfl))
theorem a109 : PX 109 := fun d s o m => Eq.trans (by kernel_rfl) (Eq.trans (g9 d s o m (c27 (109, d, s, o, m, ())) (hc 109 d s o m (by omega))) (by kernel_rfl))
theorem a110 : PX 110 := fun d s o m => Eq.trans (by kernel_rfl) (Eq.trans (g9 d s o m (c27 (110, d, s, o, m, ())) (hc 110 d s o m (by omega))) (by kernel_rfl))
theorem a111 : PX 111 := fun d s o m => Eq.trans (by kernel_rfl) (Eq.trans (g17 d s o m (c27 (111, d, s, o, m, ())) (hc 111 d s o m (by omega))) (by kernel_rfl))
theorem a112 : PX 112 := fun d s o m => Eq.trans (by kernel_rfl) (Eq.trans (g0 d s o m (c27 (112, d, s, o, m, ())) (hc 112 d s o m (by omega))) (by kernel_rfl))
theorem a113 : PX 113 := fun d s o m => Eq.trans (by kernel_rfl) (Eq.trans (g12 d s o m (c27 (113, d, s, o, m, ())) (hc 113 d s o m (by omega))) (by kernel_rfl))
theorem a114 : PX 114 := fun d s o m => Eq.trans (by kernel_rfl) (Eq.trans (g13 d s o m (c27 (114, d, s, o, m, ())) (hc 114 d s o m (by omega))) (by kernel_rfl))
theorem a115 : PX 115 := fun d s o m => Eq.trans (by kernel_rfl) (Eq.trans (g14 d s o m (c27 (115, d, s, o, m, ())) (hc 115 d s o m (by omega))) (by kernel_rfl))
theorem a116 : PX 116 := fun d s o m => Eq.trans (by kernel_rfl) (Eq.trans (g15 d s o m (c27 (116, d, s, o, m, ())) (hc 116 d s o m (by omega))) (by kernel_rfl))
theorem a117 : PX 117 := fun d s o m => Eq.trans (by kernel_rfl) (Eq.trans (g7 d s o m (c27 (117, d, s, o, m, ())) (hc 117 d s o m (by omega))) (by kernel_rfl))
theorem a118 : PX 118 := fun d s o m => Eq.trans (by kernel_rfl) (Eq.trans (g7 d s o m (c27 (118, d, s, o, m, ())) (hc 118 d s o m (by omega))) (by kernel_rfl))
theorem a119 : PX 119 := fun d s o m => Eq.trans (by kernel_rfl) (Eq.trans (g16 d s o m (c27 (119, d, s, o, m, ())) (hc 119 d s o m (by omega))) (by kernel_rfl))
theorem a120 : PX 120 := fun d s o m => Eq.trans (by kernel_rfl) (Eq.trans (g0 d s o m (c27 (120, d, s, o, m, ())) (hc 120 d s o m (by omega))) (by kernel_rfl))
theorem a121 : PX 121 := fun d s o m => Eq.trans (by kernel_rfl) (Eq.trans (g12 d s o m (c27 (121, d, s, o, m, ())) (hc 121 d s o m (by omega))) (by kernel_rfl))
theorem a122 : PX 122 := fun d s o m => Eq.trans (by kernel_rfl) (Eq.trans (g13 d s o m (c27 (122, d, s, o, m, ())) (hc 122 d s o m (by omega))) (by kernel_rfl))
theorem a123 : PX 123 := fun d s o m => Eq.trans (by kernel_rfl) (Eq.trans (g14 d s o m (c27 (123, d, s, o, m, ())) (hc 123 d s o m (by omega))) (by kernel_rfl))
theorem a124 : PX 124 := fun d s o m => Eq.trans (by kernel_rfl) (Eq.trans (g17 d s o m (c27 (124, d, s, o, m, ())) (hc 124 d s o m (by omega))) (by kernel_rfl))
theorem a125 : PX 125 := fun d s o m => Eq.trans (by kernel_rfl) (Eq.trans (g9 d s o m (c27 (125, d, s, o, m, ())) (hc 125 d s o m (by omega))) (by kernel_rfl))
theorem a126 : PX 126 := fun d s o m => Eq.trans (by kernel_rfl) (Eq.trans (g9 d s o m (c27 (126, d, s, o, m, ())) (hc 126 d s o m (by omega))) (by kernel_rfl))
theorem a127 : PX 127 := fun d s o m => Eq.trans (by kernel_rfl) (Eq.trans (g17 d s o m (c27 (127, d, s, o, m, ())) (hc 127 d s o m (by omega))) (by kernel_rfl))
theorem a128 : PX 128 := fun d s o m => Eq.trans (by kernel_rfl) (Eq.trans (g0 d s o m (c27 (128, d, s, o, m, ())) (hc 128 d s o m (by omega))) (by kernel_rfl))
theorem a129 : PX 129 := fun d s o m => Eq.trans (by kernel_rfl) (Eq.trans (g12 d s o m (c27 (129, d, s, o, m, ())) (hc 129 d s o m (by omega))) (by kernel_rfl))
theorem a130 : PX 130 := fun d s o m => Eq.trans (by kernel_rfl) (Eq.trans (g2 d s o m (c27 (130, d, s, o, m, ())) (hc 130 d s o m (by omega))) (by kernel_rfl))
theorem a131 : PX 131 := fun d s o m => Eq.trans (by kernel_rfl) (Eq.trans (g2 d s o m (c27 (131, d, s, o, m, ())) (hc 131 d s o m (by omega))) (by kernel_rfl))
theorem a132 : PX 132 := fun d s o m => Eq.trans (by kernel_rfl) (Eq.trans (g18 d s o m (c27 (132, d, s, o, m, ())) (hc 132 d s o m (by omega))) (by kernel_rfl))
theorem a133 : PX 133 := fun d s o m => Eq.trans (by kernel_rfl) (Eq.trans (g19 d s o m (c27 (133, d, s, o, m, ())) (hc 133 d s o m (by omega))) (by kernel_rfl))
theorem a134 : PX 134 := fun d s o m => Eq.trans (by kernel_rfl) (Eq.trans (g5 d s o m (c27 (134, d, s, o, m, ())) (hc 134 d s o m (by omega))) (by kernel_rfl))
theorem a135 : PX 135 := fun d s o m => Eq.trans (by kernel_rfl) (Eq.trans (g18 d s o m (c27 (135, d, s, o, m, ())) (hc 135 d s o m (by omega))) (by kernel_rfl))
theorem a136 : PX 136 := fun d s o m => Eq.trans (by kernel_rfl) (Eq.trans (g0 d s o m (c27 (136, d, s, o, m, ())) (hc 136 d s o m (by omega))) (by kernel_rfl))
theorem a137 : PX 137 := fun d s o m => Eq.trans (by kernel_rfl) (Eq.trans (g12 d s o m (c27 (137, d, s, o, m, ())) (hc 137 d s o m (by omega))) (by kernel_rfl))
theorem a138 : PX 138 := fun d s o m => Eq.trans (by kernel_rfl) (Eq.trans (g2 d s o m (c27 (138, d, s, o, m, ())) (hc 138 d s o m (by omega))) (by kernel_rfl))
theorem a139 : PX 139 := fun d s o m => Eq.trans (by kernel_rfl) (Eq.trans (g2 d s o m (c27 (139, d, s, o, m, ())) (hc 139 d s o m (by omega))) (by kernel_rfl))
theorem a140 : PX 140 := fun d s o m => Eq.trans (by kernel_rfl) (Eq.trans (g20 d s o m (c27 (140, d, s, o, m, ())) (hc 140 d s o m (by omega))) (by kernel_rfl))
theorem a141 : PX 141 := fun d s o m => Eq.trans (by kernel_rfl) (Eq.trans (g5 d s o m (c27 (141, d, s, o, m, ())) (hc 141 d s o m (by omega))) (by kernel_rfl))
theorem a142 : PX 142 := fun d s o m => Eq.trans (by kernel_rfl) (Eq.trans (g5 d s o m (c27 (142, d, s, o, m, ())) (hc 142 d s o m (by omega))) (by kernel_rfl))
theorem a143 : PX 143 := fun d s o m => Eq.trans (by kernel_rfl) (Eq.trans (g20 d s o m (c27 (143, d, s, o, m, ())) (hc 143 d s o m (by omega))) (by kernel_rfl))
theorem a144 : PX 144 := fun d s o m => Eq.trans (by kernel_rfl) (Eq.trans (g0 d s o m (c27 (144, d, s, o, m, ())) (hc 144 d s o m (by omega))) (by kernel_rfl))
theorem a145 : PX 145 := fun d s o m => Eq.trans (by kernel_rfl) (Eq.trans (g12 d s o m (c27 (145, d, s, o, m, ())) (hc 145 d s o m (by omega))) (by kernel_rfl))
theorem a146 : PX 146 := fun d s o m => Eq.trans (by kernel_rfl) (Eq.trans (g2 d s o m (c27 (146, d, s, o, m, ())) (hc 146 d s o m (by omega))) (by kernel_rfl))
theorem a147 : PX 147 := fun d s o m => Eq.trans (by kernel_rfl) (Eq.trans (g2 d s o m (c27 (147, d, s, o, m, ())) (hc 147 d s o m (by omega))) (by kernel_rfl))
theorem a148 : PX 148 := fun d s o m => Eq.trans (by kernel_rfl) (Eq.trans (g10 d s o m (c27 (148, d, s, o, m, ())) (hc 148 d s o m (by omega))) (by kernel_rfl))
theorem a149 : PX 149 := fun d s o m => Eq.trans (by kernel_rfl) (Eq.trans (g21 d s o m (c27 (149, d, s, o, m, ())) (hc 149 d s o m (by omega))) (by kernel_rfl))
theorem a150 : PX 150 := fun d s o m => Eq.trans (by kernel_rfl) (Eq.trans (g5 d s o m (c27 (150, d, s, o, m, ())) (hc 150 d s o m (by omega))) (by kernel_rfl))
theorem a151 : PX 151 := fun d s o m => Eq.trans (by kernel_rfl) (Eq.trans (g10 d s o m (c27 (151, d, s, o, m, ())) (hc 151 d s o m (by omega))) (by kernel_rfl))
theorem a152 : PX 152 := fun d s o m => Eq.trans (by kernel_rfl) (Eq.trans (g0 d s o m (c27 (152, d, s, o, m, ())) (hc 152 d s o m (by omega))) (by kernel_rfl))
theorem a153 : PX 153 := fun d s o m => Eq.trans (by kernel_rfl) (Eq.trans (g1 d s o m (c27 (153, d, s, o, m, ())) (hc 153 d s o m (by omega))) (by kernel_rfl))
theorem a154 : PX 154 := fun d s o m => Eq.trans (by kernel_rfl) (Eq.trans (g2 d s o m (c27 (154, d, s, o, m, ())) (hc 154 d s o m (by omega))) (by kernel_rfl))
theorem a155 : PX 155 := fun d s o m => Eq.trans (by kernel_rfl) (Eq.trans (g2 d s o m (c27 (155, d, s, o, m, ())) (hc 155 d s o m (by omega))) (by kernel_rfl))
theorem a156 : PX 156 := fun d s o m => Eq.trans (by kernel_rfl) (Eq.trans (g11 d s o m (c27 (156, d, s, o, m, ())) (hc 156 d s o m (by omega))) (by kernel_rfl))
theorem a157 : PX 157 := fun d s o m => Eq.trans (by kernel_rfl) (Eq.trans (g5 d s o m (c27 (157, d, s, o, m, ())) (hc 157 d s o m (by omega))) (by kernel_rfl))
theorem a158 : PX 158 := fun d s o m => Eq.trans (by kernel_rfl) (Eq.trans (g5 d s o m (c27 (158, d, s, o, m, ())) (hc 158 d s o m (by omega))) (by kernel_rfl))
theorem a159 : PX 159 := fun d s o m => Eq.trans (by kernel_rfl) (Eq.trans (g11 d s o m (c27 (159, d, s, o, m, ())) (hc 159 d s o m (by omega))) (by kernel_rfl))
theorem a160 : PX 160 := fun d s o m => Eq.trans (by kernel_rfl) (Eq.trans (g0 d s o m (c27 (160, d, s, o, m, ())) (hc 160 d s o m (by omega))) (by kernel_rfl))
theorem a161 : PX 161 := fun d s o m => Eq.trans (by kernel_rfl) (Eq.trans (g1 d s o m (c27 (161, d, s, o, m, ())) (hc 161 d s o m (by omega))) (by kernel_rfl))
theorem a162 : PX 162 := fun d s o m => Eq.trans (by kernel_rfl) (Eq.trans (g2 d s o m (c27 (162, d, s, o, m, ())) (hc 162 d s o m (by omega))) (by kernel_rfl))
theorem a163 : PX 163 := fun d s o m => Eq.trans (by kernel_rfl) (Eq.trans (g2 d s o m (c27 (163, d, s, o, m, ())) (hc 163 d s o m (by omega))) (by kernel_rfl))
theorem a164 : PX 164 := fun d s o m => Eq.trans (by kernel_rfl) (Eq.trans (g3 d s o m (c27 (164, d, s, o, m, ())) (hc 164 d s o m (by omega))) (by kernel_rfl))
theorem a165 : PX 165 := fun d s o m => Eq.trans (by kernel_rfl) (Eq.trans (g7 d s o m (c27 (165, d, s, o, m, ())) (hc 165 d s o m (by omega))) (by kernel_rfl))
theorem a166 : PX 166 := fun d s o m => Eq.trans (by kernel_rfl) (Eq.trans (g7 d s o m (c27 (166, d, s, o, m, ())) (hc 166 d s o m (by omega))) (by kernel_rfl))
theorem a167 : PX 167 := fun d s o m => Eq.trans (by kernel_rfl) (Eq.trans (g3 d s o m (c27 (167, d, s, o, m, ())) (hc 167 d s o m (by omega))) (by kernel_rfl))
theorem a168 : PX 168 := fun d s o m => Eq.trans (by kernel_rfl) (Eq.trans (g0 d s o m (c27 (168, d, s, o, m, ())) (hc 168 d s o m (by omega))) (by kernel_rfl))
theorem a169 : PX 169 := fun d s o m => Eq.trans (by kernel_rfl) (Eq.trans (g1 d s o m (c27 (169, d, s, o, m, ())) (hc 169 d s o m (by omega))) (by kernel_rfl))
theorem a170 : PX 170 := fun d s o m => Eq.trans (by kernel_rfl) (Eq.trans (g2 d s o m (c27 (170, d, s, o, m, ())) (hc 170 d s o m (by omega))) (by kernel_rfl))
theorem a171 : PX 171 := fun d s o m => Eq.trans (by kernel_rfl) (Eq.trans (g2 d s o m (c27 (171, d, s, o, m, ())) (hc 171 d s o m (by omega))) (by kernel_rfl))
theorem a172 : PX 172 := fun d s o m => Eq.trans (by kernel_rfl) (Eq.trans (g6 d s o m (c27 (172, d, s, o, m, ())) (hc 172 d s o m (by omega))) (by kernel_rfl))
theorem a173 : PX 173 := fun d s o m => Eq.trans (by kernel_rfl) (Eq.trans (g9 d s o m (c27 (173, d, s, o, m, ())) (hc 173 d s o m (by omega))) (by kernel_rfl))
theorem a174 : PX 174 := fun d s o m => Eq.trans (by kernel_rfl) (Eq.trans (g9 d s o m (c27 (174, d, s, o, m, ())) (hc 174 d s o m (by omega))) (by kernel_rfl))
theorem a175 : PX 175 := fun d s o m => Eq.trans (by kernel_rfl) (Eq.trans (g6 d s o m (c27 (175, d, s, o, m, ())) (hc 175 d s o m (by omega))) (by kernel_rfl))
theorem a176 : PX 176 := fun d s o m => Eq.trans (by kernel_rfl) (Eq.trans (g0 d s o m (c27 (176, d, s, o, m, ())) (hc 176 d s o m (by omega))) (by kernel_rfl))
theorem a177 : PX 177 := fun d s o m => Eq.trans (by kernel_rfl) (Eq.trans (g1 d s o m (c27 (177, d, s, o, m, ())) (hc 177 d s o m (by omega))) (by kernel_rfl))
theorem a178 : PX 178 := fun d s o m => Eq.trans (by kernel_rfl) (Eq.trans (g2 d s o m (c27 (178, d, s, o, m, ())) (hc 178 d s o m (by omega))) (by kernel_rfl))
theorem a179 : PX 179 := fun d s o m => Eq.trans (by kernel_rfl) (Eq.trans (g2 d s o m (c27 (179, d, s, o, m, ())) (hc 179 d s o m (by omega))) (by kernel_rfl))
theorem a180 : PX 180 := fun d s o m => Eq.trans (by kernel_rfl) (Eq.trans (g22 d s o m (c27 (180, d, s, o, m, ())) (hc 180 d s o m (by omega))) (by kernel_rfl))
theorem a181 : PX 181 := fun d s o m => Eq.trans (by kernel_rfl) (Eq.trans (g7 d s o m (c27 (181, d, s, o, m, ())) (hc 181 d s o m (by omega))) (by kernel_rfl))
theorem a182 : PX 182 := fun d s o m => Eq.trans (by kernel_rfl) (Eq.trans (g7 d s o m (c27 (182, d, s, o, m, ())) (hc 182 d s o m (by omega))) (by kernel_rfl))
theorem a183 : PX 183 := fun d s o m => Eq.trans (by kernel_rfl) (Eq.trans (g22 d s o m (c27 (183, d, s, o, m, ())) (hc 183 d s o m (by omega))) (by kernel_rfl))
theorem a184 : PX 184 := fun d s o m => Eq.trans (by kernel_rfl) (Eq.trans (g0 d s o m (c27 (184, d, s, o, m, ())) (hc 184 d s o m (by omega))) (by kernel_rfl))
theorem a185 : PX 185 := fun d s o m => Eq.trans (by kernel_rfl) (Eq.trans (g1 d s o m (c27 (185, d, s, o, m, ())) (hc 185 d s o m (by omega))) (by kernel_rfl))
theorem a186 : PX 186 := fun d s o m => Eq.trans (by kernel_rfl) (Eq.trans (g2 d s o m (c27 (186, d, s, o, m, ())) (hc 186 d s o m (by omega))) (by kernel_rfl))
theorem a187 : PX 187 := fun d s o m => Eq.trans (by kernel_rfl) (Eq.trans (g2 d s o m (c27 (187, d, s, o, m, ())) (hc 187 d s o m (by omega))) (by kernel_rfl))
theorem a188 : PX 188 := fun d s o m => Eq.trans (by kernel_rfl) (Eq.trans (g23 d s o m (c27 (188, d, s, o, m, ())) (hc 188 d s o m (by omega))) (by kernel_rfl))
theorem a189 : PX 189 := fun d s o m => Eq.trans (by kernel_rfl) (Eq.trans (g9 d s o m (c27 (189, d, s, o, m, ())) (hc 189 d s o m (by omega))) (by kernel_rfl))
theorem a190 : PX 190 := fun d s o m => Eq.trans (by kernel_rfl) (Eq.trans (g9 d s o m (c27 (190, d, s, o, m, ())) (hc 190 d s o m (by omega))) (by kernel_rfl))
theorem a191 : PX 191 := fun d s o m => Eq.trans (by kernel_rfl) (Eq.trans (g24 d s o m (c27 (191, d, s, o, m, ())) (hc 191 d s o m (by omega))) (by kernel_rfl))
theorem a192 : PX 192 := fun d s o m => Eq.trans (by kernel_rfl) (Eq.trans (g0 d s o m (c27 (192, d, s, o, m, ())) (hc 192 d s o m (by omega))) (by kernel_rfl))
theorem a193 : PX 193 := fun d s o m => Eq.trans (by kernel_rfl) (Eq.trans (g1 d s o m (c27 (193, d, s, o, m, ())) (hc 193 d s o m (by omega))) (by kernel_rfl))
theorem a194 : PX 194 := fun d s o m => Eq.trans (by kernel_rfl) (Eq.trans (g2 d s o m (c27 (194, d, s, o, m, ())) (hc 194 d s o m (by omega))) (by kernel_rfl))
theorem a195 : PX 195 := fun d s o m => Eq.trans (by kernel_rfl) (Eq.trans (g25 d s o m (c27 (195, d, s, o, m, ())) (hc 195 d s o m (by omega))) (by kernel_rfl))
theorem a196 : PX 196 := fun d s o m => Eq.trans (by kernel_rfl) (Eq.trans (g15 d s o m (c27 (196, d, s, o, m, ())) (hc 196 d s o m (by omega))) (by kernel_rfl))
theorem a197 : PX 197 := fun d s o m => Eq.trans (by kernel_rfl) (Eq.trans (g7 d s o m (c27 (197, d, s, o, m, ())) (hc 197 d s o m (by omega))) (by kernel_rfl))
theorem a198 : PX 198 := fun d s o m => Eq.trans (by kernel_rfl) (Eq.trans (g7 d s o m (c27 (198, d, s, o, m, ())) (hc 198 d s o m (by omega))) (by kernel_rfl))
theorem a199 : PX 199 := fun d s o m => Eq.trans (by kernel_rfl) (Eq.trans (g16 d s o m (c27 (199, d, s, o, m, ())) (hc 199 d s o m (by omega))) (by kernel_rfl))
theorem a200 : PX 200 := fun d s o m => Eq.trans (by kernel_rfl) (Eq.trans (g0 d s o m (c27 (200, d, s, o, m, ())) (hc 200 d s o m (by omega))) (by kernel_rfl))
theorem a201 : PX 201 := fun d s o m => Eq.trans (by kernel_rfl) (Eq.trans (g1 d s o m (c27 (201, d, s, o, m, ())) (hc 201 d s o m (by omega))) (by kernel_rfl))
theorem a202 : PX 202 := fun d s o m => Eq.trans (by kernel_rfl) (Eq.trans (g2 d s o m (c27 (202, d, s, o, m, ())) (hc 202 d s o m (by omega))) (by kernel_rfl))
theorem a203 : PX 203 := fun d s o m => Eq.trans (by kernel_rfl) (Eq.trans (g2 d s o m (c27 (203, d, s, o, m, ())) (hc 203 d s o m (by omega))) (by kernel_rfl))
theorem a204 : PX 204 := fun d s o m => Eq.trans (by kernel_rfl) (Eq.trans (g17 d s o m (c27 (204, d, s, o, m, ())) (hc 204 d s o m (by omega))) (by kernel_rfl))
theorem a205 : PX 205 := fun d s o m => Eq.trans (by kernel_rfl) (Eq.trans (g9 d s o m (c27 (205, d, s, o, m, ())) (hc 205 d s o m (by omega))) (by kernel_rfl))
theorem a206 : PX 206 := fun d s o m => Eq.trans (by kernel_rfl) (Eq.trans (g9 d s o m (c27 (206, d, s, o, m, ())) (hc 206 d s o m (by omega))) (by kernel_rfl))
theorem a207 : PX 207 := fun d s o m => Eq.trans (by kernel_rfl) (Eq.trans (g17 d s o m (c27 (207, d, s, o, m, ())) (hc 207 d s o m (by omega))) (by kernel_rfl))
theorem a208 : PX 208 := fun d s o m => Eq.trans (by kernel_rfl) (Eq.trans (g0 d s o m (c27 (208, d, s, o, m, ())) (hc 208 d s o m (by omega))) (by kernel_rfl))
theorem a209 : PX 209 := fun d s o m => Eq.trans (by kernel_rfl) (Eq.trans (g1 d s o m (c27 (209, d, s, o, m, ())) (hc 209 d s o m (by omega))) (by kernel_rfl))
theorem a210 : PX 210 := fun d s o m => Eq.trans (by kernel_rfl) (Eq.trans (g2 d s o m (c27 (210, d, s, o, m, ())) (hc 210 d s o m (by omega))) (by kernel_rfl))
theorem a211 : PX 211 := fun d s o m => Eq.trans (by kernel_rfl) (Eq.trans (g2 d s o m (c27 (211, d, s, o, m, ())) (hc 211 d s o m (by omega))) (by kernel_rfl))
theorem a212 : PX 212 := fun d s o m => Eq.trans (by kernel_rfl) (Eq.trans (g26 d s o m (c27 (212, d, s, o, m, ())) (hc 212 d s o m (by omega))) (by kernel_rfl))
theorem a213 : PX 213 := fun d s o m => Eq.trans (by kernel_rfl) (Eq.trans (g7 d s o m (c27 (213, d, s, o, m, ())) (hc 213 d s o m (by omega))) (by kernel_rfl))
theorem a214 : PX 214 := fun d s o m => Eq.trans (by kernel_rfl) (Eq.trans (g7 d s o m (c27 (214, d, s, o, m, ())) (hc 214 d s o m (by omega))) (by kernel_rfl))
theorem a215 : PX 215 := fun d s o m => Eq.trans (by kernel_rfl) (Eq.trans (g26 d s o m (c27 (215, d, s, o, m, ())) (hc 215 d s o m (by omega))) (by kernel_rfl))
theorem a216 : PX 216 := fun d s o m => Eq.trans (by kernel_rfl) (Eq.trans (g0 d s o m (c27 (216, d, s, o, m, ())) (hc 216 d s o m (by omega))) (by kernel_rfl))
theorem a217 : PX 217 := fun d s o m => Eq.trans (by kernel_rfl) (Eq.trans (g1 d s o m (c27 (217, d, s, o, m, ())) (hc 217 d s o m (by omega))) (by kernel_rfl))
theorem a218 : PX 218 := fun d s o m => Eq.trans (by kernel_rfl) (Eq.trans (g2 d s o m (c27 (218, d, s, o, m, ())) (hc 218 d s o m (by omega))) (by kernel_rfl))
theorem a219 : PX 219 := fun d s o m => Eq.trans (by kernel_rfl) (Eq.trans (g25 d s o m (c27 (219, d, s, o, m, ())) (hc 219 d s o m (by omega))) (by kernel_rfl))
theorem a220 : PX 220 := fun d s o m => Eq.trans (by kernel_rfl) (Eq.trans (g26 d s o m (c27 (220, d, s, o, m, ())) (hc 220 d s o m (by omega))) (by kernel_rfl))
theorem a221 : PX 221 := fun d s o m => Eq.trans (by kernel_rfl) (Eq.trans (g9 d s o m (c27 (221, d, s, o, m, ())) (hc 221 d s o m (by omega))) (by kernel_rfl))
theorem a222 : PX 222 := fun d s o m => Eq.trans (by kernel_rfl) (Eq.trans (g9 d s o m (c27 (222, d, s, o, m, ())) (hc 222 d s o m (by omega))) (by kernel_rfl))
theorem a223 : PX 223 := fun d s o m => Eq.trans (by kernel_rfl) (Eq.trans (g20 d s o m (c27 (223, d, s, o, m, ())) (hc 223 d s o m (by omega))) (by kernel_rfl))
theorem a224 : PX 224 := fun d s o m => Eq.trans (by kernel_rfl) (Eq.trans (g0 d s o m (c27 (224, d, s, o, m, ())) (hc 224 d s o m (by omega))) (by kernel_rfl))
theorem a225 : PX 225 := fun d s o m => Eq.trans (by kernel_rfl) (Eq.trans (g1 d s o m (c27 (225, d, s, o, m, ())) (hc 225 d s o m (by omega))) (by kernel_rfl))
theorem a226 : PX 226 := fun d s o m => Eq.trans (by kernel_rfl) (Eq.trans (g2 d s o m (c27 (226, d, s, o, m, ())) (hc 226 d s o m (by omega))) (by kernel_rfl))
theorem a227 : PX 227 := fun d s o m => Eq.trans (by kernel_rfl) (Eq.trans (g2 d s o m (c27 (227, d, s, o, m, ())) (hc 227 d s o m (by omega))) (by kernel_rfl))
theorem a228 : PX 228 := fun d s o m => Eq.trans (by kernel_rfl) (Eq.trans (g27 d s o m (c27 (228, d, s, o, m, ())) (hc 228 d s o m (by omega))) (by kernel_rfl))
theorem a229 : PX 229 := fun d s o m => Eq.trans (by kernel_rfl) (Eq.trans (g5 d s o m (c27 (229, d, s, o, m, ())) (hc 229 d s o m (by omega))) (by kernel_rfl))
theorem a230 : PX 230 := fun d s o m => Eq.trans (by kernel_rfl) (Eq.trans (g5 d s o m (c27 (230, d, s, o, m, ())) (hc 230 d s o m (by omega))) (by kernel_rfl))
theorem a231 : PX 231 := fun d s o m => Eq.trans (by kernel_rfl) (Eq.trans (g27 d s o m (c27 (231, d, s, o, m, ())) (hc 231 d s o m (by omega))) (by kernel_rfl))
theorem a232 : PX 232 := fun d s o m => Eq.trans (by kernel_rfl) (Eq.trans (g0 d s o m (c27 (232, d, s, o, m, ())) (hc 232 d s o m (by omega))) (by kernel_rfl))
theorem a233 : PX 233 := fun d s o m => Eq.trans (by kernel_rfl) (Eq.trans (g1 d s o m (c27 (233, d, s, o, m, ())) (hc 233 d s o m (by omega))) (by kernel_rfl))
theorem a234 : PX 234 := fun d s o m => Eq.trans (by kernel_rfl) (Eq.trans (g2 d s o m (c27 (234, d, s, o, m, ())) (hc 234 d s o m (by omega))) (by kernel_rfl))
theorem a235 : PX 235 := fun d s o m => Eq.trans (by kernel_rfl) (Eq.trans (g2 d s o m (c27 (235, d, s, o, m, ())) (hc 235 d s o m (by omega))) (by kernel_rfl))
theorem a236 : PX 236 := fun d s o m => Eq.trans (by kernel_rfl) (Eq.trans (g28 d s o m (c27 (236, d, s, o, m, ())) (hc 236 d s o m (by omega))) (by kernel_rfl))
theorem a237 : PX 237 := fun d s o m => Eq.trans (by kernel_rfl) (Eq.trans (g5 d s o m (c27 (237, d, s, o, m, ())) (hc 237 d s o m (by omega))) (by kernel_rfl))
theorem a238 : PX 238 := fun d s o m => Eq.trans (by kernel_rfl) (Eq.trans (g5 d s o m (c27 (238, d, s, o, m, ())) (hc 238 d s o m (by omega))) (by kernel_rfl))
theorem a239 : PX 239 := fun d s o m => Eq.trans (by kernel_rfl) (Eq.trans (g28 d s o m (c27 (239, d, s, o, m, ())) (hc 239 d s o m (by omega))) (by kernel_rfl))
theorem a240 : PX 240 := fun d s o m => Eq.trans (by kernel_rfl) (Eq.trans (g0 d s o m (c27 (240, d, s, o, m, ())) (hc 240 d s o m (by omega))) (by kernel_rfl))
theorem a241 : PX 241 := fun d s o m => Eq.trans (by kernel_rfl) (Eq.trans (g1 d s o m (c27 (241, d, s, o, m, ())) (hc 241 d s o m (by omega))) (by kernel_rfl))
theorem a242 : PX 242 := fun d s o m => Eq.trans (by kernel_rfl) (Eq.trans (g2 d s o m (c27 (242, d, s, o, m, ())) (hc 242 d s o m (by omega))) (by kernel_rfl))
theorem a243 : PX 243 := fun d s o m => Eq.trans (by kernel_rfl) (Eq.trans (g2 d s o m (c27 (243, d, s, o, m, ())) (hc 243 d s o m (by omega))) (by kernel_rfl))
theorem a244 : PX 244 := fun d s o m => Eq.trans (by kernel_rfl) (Eq.trans (g27 d s o m (c27 (244, d, s, o, m, ())) (hc 244 d s o m (by omega))) (by kernel_rfl))
theorem a245 : PX 245 := fun d s o m => Eq.trans (by kernel_rfl) (Eq.trans (g5 d s o m (c27 (245, d, s, o, m, ())) (hc 245 d s o m (by omega))) (by kernel_rfl))
theorem a246 : PX 246 := fun d s o m => Eq.trans (by kernel_rfl) (Eq.trans (g5 d s o m (c27 (246, d, s, o, m, ())) (hc 246 d s o m (by omega))) (by kernel_rfl))
theorem a247 : PX 247 := fun d s o m => Eq.trans (by kernel_rfl) (Eq.trans (g27 d s o m (c27 (247, d, s, o, m, ())) (hc 247 d s o m (by omega))) (by kernel_rfl))
theorem a248 : PX 248 := fun d s o m => Eq.trans (by kernel_rfl) (Eq.trans (g0 d s o m (c27 (248, d, s, o, m, ())) (hc 248 d s o m (by omega))) (by kernel_rfl))
theorem a249 : PX 249 := fun d s o m => Eq.trans (by kernel_rfl) (Eq.trans (g1 d s o m (c27 (249, d, s, o, m, ())) (hc 249 d s o m (by omega))) (by kernel_rfl))
theorem a250 : PX 250 := fun d s o m => Eq.trans (by kernel_rfl) (Eq.trans (g2 d s o m (c27 (250, d, s, o, m, ())) (hc 250 d s o m (by omega))) (by kernel_rfl))
theorem a251 : PX 251 := fun d s o m => Eq.trans (by kernel_rfl) (Eq.trans (g2 d s o m (c27 (251, d, s, o, m, ())) (hc 251 d s o m (by omega))) (by kernel_rfl))
theorem a252 : PX 252 := fun d s o m => Eq.trans (by kernel_rfl) (Eq.trans (g28 d s o m (c27 (252, d, s, o, m, ())) (hc 252 d s o m (by omega))) (by kernel_rfl))
theorem a253 : PX 253 := fun d s o m => Eq.trans (by kernel_rfl) (Eq.trans (g5 d s o m (c27 (253, d, s, o, m, ())) (hc 253 d s o m (by omega))) (by kernel_rfl))
theorem a254 : PX 254 := fun d s o m => Eq.trans (by kernel_rfl) (Eq.trans (g5 d s o m (c27 (254, d, s, o, m, ())) (hc 254 d s o m (by omega))) (by kernel_rfl))
theorem a255 : PX 255 := fun d s o m => Eq.trans (by kernel_rfl) (Eq.trans (g28 d s o m (c27 (255, d, s, o, m, ())) (hc 255 d s o m (by omega))) (by kernel_rfl))
end Go.Proofs
