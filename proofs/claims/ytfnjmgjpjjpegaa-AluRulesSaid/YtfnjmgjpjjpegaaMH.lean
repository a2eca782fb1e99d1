import Derived.Test.YtfnjmgjpjjpegaaMG
namespace Go.Proofs
open Go.GX
set_option linter.unusedVariables false
set_option linter.unusedSimpArgs false
-- what Bin answers, operation by operation
theorem S9_add (a b : Int) : S9tf inW 0 a b = some (IntKind.wrap .u64 (a + b), 0, ()) := by kernel_rfl
theorem S9_sub (a b : Int) : S9tf inW 16 a b = some (IntKind.wrap .u64 (a - b), 0, ()) := by kernel_rfl
theorem S9_mul (a b : Int) : S9tf inW 32 a b = some (IntKind.wrap .u64 (a * b), 0, ()) := by kernel_rfl
theorem s9_tf (op a b : Int) : s9 op true false a b = (S9tf inW op a b).getD (0, 0, ()) := rfl
theorem add_w (a b : Int) : (s9 0 true false a b).1 = IntKind.wrap .u64 (a + b) := by rw [s9_tf, S9_add]; rfl
theorem sub_w (a b : Int) : (s9 16 true false a b).1 = IntKind.wrap .u64 (a - b) := by rw [s9_tf, S9_sub]; rfl
theorem mul_w (a b : Int) : (s9 32 true false a b).1 = IntKind.wrap .u64 (a * b) := by rw [s9_tf, S9_mul]; rfl
theorem add_n (a b : Int) : (s9 0 false false a b).1 = IntKind.wrap .u64 (IntKind.wrap .u32 (IntKind.wrap .u64 (iand .u64 a 4294967295 + iand .u64 b 4294967295))) := by simp only [s9, Bn, S9ff, cond_true, cond_false, Option.getD_some, decide_true, decide_false, Int.reduceEq]
theorem sub_n (a b : Int) : (s9 16 false false a b).1 = IntKind.wrap .u64 (IntKind.wrap .u32 (IntKind.wrap .u64 (iand .u64 a 4294967295 - iand .u64 b 4294967295))) := by simp only [s9, Bn, S9ff, cond_true, cond_false, Option.getD_some, decide_true, decide_false, Int.reduceEq]
theorem mul_n (a b : Int) : (s9 32 false false a b).1 = IntKind.wrap .u64 (IntKind.wrap .u32 (IntKind.wrap .u64 (iand .u64 a 4294967295 * iand .u64 b 4294967295))) := by simp only [s9, Bn, S9ff, cond_true, cond_false, Option.getD_some, decide_true, decide_false, Int.reduceEq]
theorem dv (op a b : Int) (w : Bool) (hop : op = 48 ∨ op = 144) (ha : 0 ≤ a) : s20 op false w a b = if b = 0 then (if op = 48 then 0 else a) else if op = 48 then IntKind.wrap .u64 (Int.tdiv a b) else a % b := by
  by_cases h0 : b = 0
  · rcases hop with rfl | rfl <;> cases w <;> simp [s20, S20ft, S20ff, h0]
  · rcases hop with rfl | rfl <;> cases w <;> simp [s20, S20ft, S20ff, h0, tt_eq, tmod_pos ha]
theorem S9_div (a b : Int) : S9tf inW 48 a b = (bif tt 1 (inW true b) then some (s20 48 false true a b, 0, ()) else none) := by kernel_rfl
theorem S9_rem (a b : Int) : S9tf inW 144 a b = (bif tt 1 (inW true b) then some (s20 144 false true a b, 0, ()) else none) := by kernel_rfl
theorem S9_shl (a b : Int) : S9tf inW 96 a b = (bif tt 1 (decide (0 ≤ Int.tmod b 64)) then some (ishl .u64 a (Int.tmod b 64), 0, ()) else none) := by kernel_rfl
theorem S9_shr (a b : Int) : S9tf inW 112 a b = (bif tt 1 (decide (0 ≤ Int.tmod b 64)) then some (ishr .u64 a (Int.tmod b 64), 0, ()) else none) := by kernel_rfl
theorem div_w (a b : Int) (hb : inU b = true) : (s9 48 true false a b).1 = s20 48 false true a b := by
  rw [s9_tf, S9_div, tt_eq, show inW true b = true from hb]; rfl
theorem rem_w (a b : Int) (hb : inU b = true) : (s9 144 true false a b).1 = s20 144 false true a b := by
  rw [s9_tf, S9_rem, tt_eq, show inW true b = true from hb]; rfl
theorem div_n (a b : Int) : (s9 48 false false a b).1 = IntKind.wrap .u64 (IntKind.wrap .u32 (s20 48 false false (a % 4294967296) (b % 4294967296))) := by
  simp [s9, Bn, S9ff, tt_eq, and_lo, inW_lo]
theorem rem_n (a b : Int) : (s9 144 false false a b).1 = IntKind.wrap .u64 (IntKind.wrap .u32 (s20 144 false false (a % 4294967296) (b % 4294967296))) := by
  simp [s9, Bn, S9ff, tt_eq, and_lo, inW_lo]
theorem shl_w (a b : Int) (hb : 0 ≤ b) : (s9 96 true false a b).1 = ishl .u64 a (b % 64) := by
  rw [s9_tf, S9_shl, tt_eq, tmod_pos hb, decide_eq_true (mod_r b 64 (by omega))]; rfl
theorem shr_w (a b : Int) (hb : 0 ≤ b) : (s9 112 true false a b).1 = ishr .u64 a (b % 64) := by
  rw [s9_tf, S9_shr, tt_eq, tmod_pos hb, decide_eq_true (mod_r b 64 (by omega))]; rfl
theorem shl_n (a b : Int) : (s9 96 false false a b).1 = IntKind.wrap .u64 (IntKind.wrap .u32 (ishl .u64 (a % 4294967296) (b % 4294967296 % 32))) := by
  simp [s9, Bn, S9ff, tt_eq, and_lo, tmod_pos (mod32r b).1, mod_r b 32 (by omega)]
theorem shr_n (a b : Int) : (s9 112 false false a b).1 = IntKind.wrap .u64 (IntKind.wrap .u32 (ishr .u64 (a % 4294967296) (b % 4294967296 % 32))) := by
  simp [s9, Bn, S9ff, tt_eq, and_lo, tmod_pos (mod32r b).1, mod_r b 32 (by omega)]
-- a shift's width
theorem by64 (d : Int) : Int.tmod (IntKind.wrap .i64 (Int.tmod d 64 + 64)) 64 = d % 64 := by
  have h1 := Int.tmod_lt_of_pos d (show (0 : Int) < 64 by decide)
  have h2 : -64 < Int.tmod d 64 := Int.lt_tmod_of_pos d (by decide)
  have h3 := Int.mul_tdiv_add_tmod d 64
  have hm : Int.tmod d 64 % 64 = d % 64 := by omega
  rw [wrap_i64]
  split
  · omega
  · rw [tmod_pos (by omega)]; omega
theorem by32 (d : Int) : Int.tmod (IntKind.wrap .i64 (Int.tmod d 32 + 32)) 32 = d % 32 := by
  have h1 := Int.tmod_lt_of_pos d (show (0 : Int) < 32 by decide)
  have h2 : -32 < Int.tmod d 32 := Int.lt_tmod_of_pos d (by decide)
  have h3 := Int.mul_tdiv_add_tmod d 32
  have hm : Int.tmod d 32 % 32 = d % 32 := by omega
  rw [wrap_i64]
  split
  · omega
  · rw [tmod_pos (by omega)]; omega
end Go.Proofs
