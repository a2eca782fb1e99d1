import Derived.Test.YteidebhnjkbbeaaBB
namespace Go.Proofs
open Go.GX
set_option linter.unusedVariables false
set_option linter.unusedSimpArgs false
theorem and_all (a : Int) : iand .u64 a 18446744073709551615 = a % 18446744073709551616 := and_mask a 64 (by omega)
theorem shl0 {n : Int} (h : InR n) : ishl .u64 n 0 = n := by
  unfold ishl
  rw [show (min (0 : Int).toNat (IntKind.bits .u64)) = 0 from rfl, wrap_u64]
  unfold InR at h
  omega
theorem shr0 (n : Int) : ishr .u64 n 0 = n := by have := shr_n n 0 (by omega); rw [show ((0 : Nat) : Int) = 0 from rfl] at this; rw [this]; omega
theorem ishl_lt (n d : Int) : InR (ishl .u64 n d) := by unfold ishl; exact inR_wrap _
theorem and_all_in {a : Int} (h : InR a) : iand .u64 a 18446744073709551615 = a := by rw [and_all]; unfold InR at h; omega
theorem ishr_in {n d : Int} (h : InR n) : InR (ishr .u64 n d) := by
  unfold ishr
  have hp : (0 : Int) < 2 ^ (min d.toNat (IntKind.bits .u64)) := Int.pow_pos (by decide)
  rw [Int.fdiv_eq_ediv_of_nonneg _ (by omega)]
  exact ⟨Int.ediv_nonneg h.1 (by omega), Int.lt_of_le_of_lt (Int.ediv_le_self _ h.1) h.2⟩
-- narrow
theorem shl_lo (n : Int) (k : Nat) (hk : k ≤ 64) : iand .u64 (ishl .u64 n (k : Int)) 4294967295 = iand .u64 (ishl .u64 (iand .u64 n 4294967295) (k : Int)) 4294967295 := by
  rw [and_lo, and_lo, and_lo]
  unfold ishl
  rw [show IntKind.bits .u64 = 64 from rfl, show (min ((k : Int).toNat) 64) = k from by omega, wrap_u64, wrap_u64]
  rw [Int.emod_emod_of_dvd _ (by decide), Int.emod_emod_of_dvd _ (by decide), Int.mul_emod (n % 4294967296), Int.emod_emod_of_dvd n (Int.dvd_refl _), ← Int.mul_emod]
theorem lo_shr (n : Int) : ishr .u64 (ishl .u64 n 32) 32 = n % 4294967296 := by
  unfold ishl
  rw [show (min (32 : Int).toNat (IntKind.bits .u64)) = 32 from rfl, wrap_u64, show ((2 : Int) ^ 32) = 4294967296 from rfl, shr32]
  omega
theorem wrap_i32_lo (n : Int) : IntKind.wrap .i32 (n % 4294967296) = IntKind.wrap .i32 n := by rw [wrap_i32, wrap_i32]; split <;> split <;> omega
theorem i64i32 (a : Int) : IntKind.wrap .i64 (IntKind.wrap .i32 a) = IntKind.wrap .i32 a := by
  rw [wrap_i32, wrap_i64]; split <;> split <;> omega
theorem sar32' (n : Int) : ishr .i64 (IntKind.wrap .i64 (ishl .u64 n 32)) 32 = IntKind.wrap .i32 n := by
  unfold ishr ishl
  rw [show (min (32 : Int).toNat (IntKind.bits .i64)) = 32 from rfl, show (min (32 : Int).toNat (IntKind.bits .u64)) = 32 from rfl]
  rw [wrap_u64, wrap_i64, wrap_i32, show (2 ^ 32 : Int) = 4294967296 from rfl, Int.fdiv_eq_ediv_of_nonneg _ (by omega)]
  split <;> split <;> omega
def fSh (op n d : Int) (w : Bool) : Int := (bif w then S46t op n d else S46f op n d).getD 0
def fShf (op : Int) (x : Tn.den) (d : Int) (w : Bool) : TE.den := (bif w then S26t op x d else S26f op x d).getD ((0, (0, ())), 1, ())
def Q7a : Sp7 := ⟨fMay, fCast, fRCast, fSh, fShf, fShf, fun d => decide (0 ≤ d)⟩
theorem sh_some (op n d : Int) (w : Bool) (hd : 0 ≤ d) : (bif w then S46t op n d else S46f op n d) = some (fSh op n d w) := by
  have z : decide (0 ≤ d) = true := decide_eq_true hd
  unfold fSh
  cases w
  · rw [cond_false]; unfold S46f; rw [z, tt_eq]; cases decide (op = 96) <;> cases decide (op = 112) <;> rfl
  · rw [cond_true]; unfold S46t; rw [z, tt_eq]; cases decide (op = 96) <;> cases decide (op = 112) <;> rfl
theorem sh96t (n d : Int) (hd : 0 ≤ d) : fSh 96 n d true = ishl .u64 n d := by
  have := sh_some 96 n d true hd; rw [cond_true] at this; unfold S46t at this; rw [decide_eq_true hd, tt_eq] at this; exact (Option.some.inj this).symm
theorem sh112t (n d : Int) (hd : 0 ≤ d) : fSh 112 n d true = ishr .u64 n d := by
  have := sh_some 112 n d true hd; rw [cond_true] at this; unfold S46t at this; rw [decide_eq_true hd, tt_eq] at this; exact (Option.some.inj this).symm
theorem sh192t (n d : Int) (hd : 0 ≤ d) : fSh 192 n d true = IntKind.wrap .u64 (ishr .i64 (IntKind.wrap .i64 n) d) := by
  have := sh_some 192 n d true hd; rw [cond_true] at this; unfold S46t at this; rw [decide_eq_true hd, tt_eq] at this; exact (Option.some.inj this).symm
theorem sh96f (n d : Int) (hd : 0 ≤ d) : fSh 96 n d false = iand .u64 (ishl .u64 (iand .u64 n 4294967295) d) 4294967295 := by
  have := sh_some 96 n d false hd; rw [cond_false] at this; unfold S46f at this; rw [decide_eq_true hd, tt_eq] at this; exact (Option.some.inj this).symm
theorem sh112f (n d : Int) (hd : 0 ≤ d) : fSh 112 n d false = iand .u64 (ishr .u64 (iand .u64 n 4294967295) d) 4294967295 := by
  have := sh_some 112 n d false hd; rw [cond_false] at this; unfold S46f at this; rw [decide_eq_true hd, tt_eq] at this; exact (Option.some.inj this).symm
theorem sh192f (n d : Int) (hd : 0 ≤ d) : fSh 192 n d false = iand .u64 (IntKind.wrap .u64 (ishr .i64 (IntKind.wrap .i64 (IntKind.wrap .i32 (iand .u64 n 4294967295))) d)) 4294967295 := by
  have := sh_some 192 n d false hd; rw [cond_false] at this; unfold S46f at this; rw [decide_eq_true hd, tt_eq] at this; exact (Option.some.inj this).symm
end Go.Proofs
