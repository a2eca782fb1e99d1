import Derived.Test.YtfnjmgjpjjpegaaB
import Derived.Test.YtfnjmgjpjjpegaaPB
namespace Go.Proofs
open Go.GX
set_option linter.unusedVariables false
set_option linter.unusedSimpArgs false
theorem mod32r (a : Int) : 0 ≤ a % 4294967296 ∧ a % 4294967296 < 4294967296 := by omega
theorem low_eq (a : Int) : IntKind.wrap .u64 (IntKind.wrap .u32 a) = a % 4294967296 := by rw [wrap_u32, wrap_u64]; omega
theorem mod_r (a n : Int) (h : 0 < n) : 0 ≤ a % n := Int.emod_nonneg _ (by omega)
theorem i64z {b : Int} (hb : 0 ≤ b ∧ b < 18446744073709551616) : IntKind.wrap .i64 b = 0 ↔ b = 0 := by
  rw [wrap_i64]; split <;> omega
theorem i32z {b : Int} (hb : 0 ≤ b ∧ b < 4294967296) : IntKind.wrap .i64 (IntKind.wrap .i32 b) = 0 ↔ b = 0 := by
  rw [wrap_i32, wrap_i64]; split <;> split <;> omega
theorem i64i32 (a : Int) : IntKind.wrap .i64 (IntKind.wrap .i32 a) = IntKind.wrap .i32 a := by
  rw [wrap_i32, wrap_i64]; split <;> split <;> omega
theorem tdiv_neg1 (a : Int) : Int.tdiv a (-1) = 0 - a := by rw [Int.tdiv_neg, Int.tdiv_one]; omega
theorem tmod_neg1 (a : Int) : Int.tmod a (-1) = 0 := by rw [Int.tmod_neg, Int.tmod_one]
theorem div_tt (op a b : Int) (hb : 0 ≤ b ∧ b < 18446744073709551616) (h : op = 48 ∨ op = 144) : s20 op true true a b = s22 (decide (op = 144)) true true a b := by
  have z := i64z hb
  by_cases hb0 : b = 0
  · rcases h with rfl | rfl <;> simp [tt, s20, s22, S20tt, S22ttt, S22ftt, hb0]
  · have hz : ¬ IntKind.wrap .i64 b = 0 := fun e => hb0 (z.1 e)
    by_cases h1 : IntKind.wrap .i64 b = -1
    · rcases h with rfl | rfl
      · simp [tt, s20, s22, S20tt, S22ttt, S22ftt, hb0, h1, tdiv_neg1]
      · simp [tt, s20, s22, S20tt, S22ttt, S22ftt, hb0, h1, tmod_neg1]; rfl
    · rcases h with rfl | rfl <;> simp [tt, s20, s22, S20tt, S22ttt, S22ftt, hb0, hz, h1]
theorem div_tf (op a b : Int) (hb : 0 ≤ b ∧ b < 4294967296) (h : op = 48 ∨ op = 144) : s20 op true false a b = s22 (decide (op = 144)) true false a b := by
  have z := i32z hb
  by_cases hb0 : b = 0
  · rcases h with rfl | rfl <;> simp [tt, s20, s22, S20tf, S22ttf, S22ftf, hb0]
  · have hz : ¬ IntKind.wrap .i64 (IntKind.wrap .i32 b) = 0 := fun e => hb0 (z.1 e)
    by_cases h1 : IntKind.wrap .i64 (IntKind.wrap .i32 b) = -1
    · rcases h with rfl | rfl
      · simp [tt, s20, s22, S20tf, S22ttf, S22ftf, hb0, h1, tdiv_neg1]
      · simp [tt, s20, s22, S20tf, S22ttf, S22ftf, hb0, h1, tmod_neg1]; rfl
    · rcases h with rfl | rfl <;> simp [tt, s20, s22, S20tf, S22ttf, S22ftf, hb0, hz, h1]
theorem div_f (w : Bool) (op a b : Int) (h : op = 48 ∨ op = 144) : s20 op false w a b = s22 (decide (op = 144)) false w a b := by
  by_cases hb0 : b = 0
  · cases w <;> rcases h with rfl | rfl <;> simp [tt, s20, s22, S20ft, S20ff, S22tft, S22fft, S22tff, S22fff, hb0]
  · cases w <;> rcases h with rfl | rfl <;> simp [tt, s20, s22, S20ft, S20ff, S22tft, S22fft, S22tff, S22fff, hb0]
theorem div_eq (s w : Bool) (op a b : Int) (hb : 0 ≤ b ∧ b < 18446744073709551616) (hw : w = false → b < 4294967296) (h : op = 48 ∨ op = 144) : s20 op s w a b = s22 (decide (op = 144)) s w a b := by
  cases s
  · exact div_f w op a b h
  · cases w
    · exact div_tf op a b ⟨hb.1, hw rfl⟩ h
    · exact div_tt op a b hb h
theorem inW_lo (b : Int) : inW false (b % 4294967296) = true := by simp [inW]; omega
theorem inU_of {b : Int} (hb : 0 ≤ b ∧ b < 18446744073709551616) : inU b = true := by simp [inU, hb.1, hb.2]
theorem inW_of {b : Int} (hb : 0 ≤ b ∧ b < 18446744073709551616) : inW true b = true := by simp [inW, inU, hb.1, hb.2]
-- what both answer
def Bn (op : Int) (w s : Bool) (a b : Int) : Option (Int × Int × Unit) := bif w then (bif s then S9tt inW op a b else S9tf inW op a b) else (bif s then S9ft inW op a b else S9ff inW op a b)
def Bm (op : Int) (w s : Bool) (a b : Int) : Option (Int × Int × Unit) := bif w then (bif s then S10tt inW op a b else S10tf inW op a b) else (bif s then S10ft inW op a b else S10ff inW op a b)
def s9 (op : Int) (w s : Bool) (a b : Int) : Int × Int × Unit := (Bn op w s a b).getD (0, 0, ())
def s10 (op : Int) (w s : Bool) (a b : Int) : Int × Int × Unit := (Bm op w s a b).getD (0, 0, ())
theorem op_cases (op : Int) : op = 48 ∨ op = 144 ∨ op = 0 ∨ op = 16 ∨ op = 32 ∨ op = 64 ∨ op = 80 ∨ op = 96 ∨ op = 112 ∨ op = 128 ∨ op = 160 ∨ op = 176 ∨ op = 192 ∨
    (op ≠ 48 ∧ op ≠ 144 ∧ op ≠ 0 ∧ op ≠ 16 ∧ op ≠ 32 ∧ op ≠ 64 ∧ op ≠ 80 ∧ op ≠ 96 ∧ op ≠ 112 ∧ op ≠ 128 ∧ op ≠ 160 ∧ op ≠ 176 ∧ op ≠ 192) := by omega
theorem bin_tt (op a b : Int) (ha : 0 ≤ a ∧ a < 18446744073709551616) (hb : 0 ≤ b ∧ b < 18446744073709551616) : ∃ r, S9tt inW op a b = some r ∧ S10tt inW op a b = some r := by
  have hd := div_eq true true op a b hb (by simp)
  rcases op_cases op with rfl | rfl | rfl | rfl | rfl | rfl | rfl | rfl | rfl | rfl | rfl | rfl | rfl | h
  all_goals first
    | (simp [tt, S9tt, S10tt, h]; done)
    | (simp [tt, S9tt, S10tt, inW_of hb, hd, tmod_pos hb.1, and63, mod_r b 64 (by omega)]; done)
theorem bin_tf (op a b : Int) (ha : 0 ≤ a ∧ a < 18446744073709551616) (hb : 0 ≤ b ∧ b < 18446744073709551616) : ∃ r, S9tf inW op a b = some r ∧ S10tf inW op a b = some r := by
  have hd := div_eq false true op a b hb (by simp)
  rcases op_cases op with rfl | rfl | rfl | rfl | rfl | rfl | rfl | rfl | rfl | rfl | rfl | rfl | rfl | h
  all_goals first
    | (simp [tt, S9tf, S10tf, h]; done)
    | (simp [tt, S9tf, S10tf, inW_of hb, hd, tmod_pos hb.1, and63, mod_r b 64 (by omega), sar0 ha]; done)
theorem bin_ft (op a b : Int) : ∃ r, S9ft inW op a b = some r ∧ S10ft inW op a b = some r := by
  have hd := div_eq true false op (a % 4294967296) (b % 4294967296) (by omega) (by intro _; omega)
  rcases op_cases op with rfl | rfl | rfl | rfl | rfl | rfl | rfl | rfl | rfl | rfl | rfl | rfl | rfl | h
  all_goals first
    | (simp [tt, S9ft, S10ft, h]; done)
    | (simp [tt, S9ft, S10ft, inW_lo, and_lo, low_eq, hd, tmod_pos (mod32r b).1, and31, mod_r b 32 (by omega)]; done)
theorem bin_ff (op a b : Int) : ∃ r, S9ff inW op a b = some r ∧ S10ff inW op a b = some r := by
  have hd := div_eq false false op (a % 4294967296) (b % 4294967296) (by omega) (by intro _; omega)
  rcases op_cases op with rfl | rfl | rfl | rfl | rfl | rfl | rfl | rfl | rfl | rfl | rfl | rfl | rfl | h
  all_goals first
    | (simp [tt, S9ff, S10ff, h]; done)
    | (simp [tt, S9ff, S10ff, inW_lo, and_lo, low_eq, hd, tmod_pos (mod32r b).1, and31, mod_r b 32 (by omega)]; done)
    | (simp only [S9ff, S10ff, i64i32, and_lo, low_eq, sar32 (mod32r a), tmod_pos (mod32r b).1, and31]; simp [tt, mod_r b 32 (by omega)]; done)
end Go.Proofs
