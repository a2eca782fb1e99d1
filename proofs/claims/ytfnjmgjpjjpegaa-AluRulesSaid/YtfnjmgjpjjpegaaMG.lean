import Derived.Test.YtfnjmgjpjjpegaaMF
namespace Go.Proofs
open Go.GX
set_option linter.unusedVariables false
set_option linter.unusedSimpArgs false
theorem shr_pow (x : Int) (k : Nat) (hk : k ≤ 64) (K : IntKind) (hb : K.bits = 64) : ishr K x (k : Int) = x / ((2 ^ k : Nat) : Int) := by
  unfold ishr
  rw [hb, show (min ((k : Int).toNat) 64) = k from by omega]
  have h : ((2 : Int) ^ k) = ((2 ^ k : Nat) : Int) := by rw [Int.natCast_pow]; rfl
  rw [h, Int.fdiv_eq_ediv_of_nonneg _ (Int.natCast_nonneg _)]
theorem shl_pow (x : Int) (k : Nat) (hk : k ≤ 64) : ishl .u64 x (k : Int) = (x * ((2 ^ k : Nat) : Int)) % 18446744073709551616 := by
  unfold ishl
  rw [show IntKind.bits .u64 = 64 from rfl, show (min ((k : Int).toNat) 64) = k from by omega, wrap_u64]
  have h : ((2 : Int) ^ k) = ((2 ^ k : Nat) : Int) := by rw [Int.natCast_pow]; rfl
  rw [h]
theorem wrap_i16 (a : Int) : IntKind.wrap .i16 a = if a % 65536 ≥ 32768 then a % 65536 - 65536 else a % 65536 := by simp [IntKind.wrap, IntKind.signed, IntKind.bits]
theorem wrap_i8 (a : Int) : IntKind.wrap .i8 a = if a % 256 ≥ 128 then a % 256 - 256 else a % 256 := by simp [IntKind.wrap, IntKind.signed, IntKind.bits]
theorem sx8 (a : Int) : ishr .i64 (IntKind.wrap .i64 (ishl .u64 a 56)) 56 = IntKind.wrap .i8 a := by
  rw [show (56 : Int) = ((56 : Nat) : Int) from rfl, shr_pow _ 56 (by omega) _ rfl, shl_pow _ 56 (by omega), show ((2 ^ 56 : Nat) : Int) = 72057594037927936 from rfl, wrap_i64, wrap_i8]
  split <;> split <;> omega
theorem sx16 (a : Int) : ishr .i64 (IntKind.wrap .i64 (ishl .u64 a 48)) 48 = IntKind.wrap .i16 a := by
  rw [show (48 : Int) = ((48 : Nat) : Int) from rfl, shr_pow _ 48 (by omega) _ rfl, shl_pow _ 48 (by omega), show ((2 ^ 48 : Nat) : Int) = 281474976710656 from rfl, wrap_i64, wrap_i16]
  split <;> split <;> omega
theorem sx32 (a : Int) : ishr .i64 (IntKind.wrap .i64 (ishl .u64 a 32)) 32 = IntKind.wrap .i32 a := by
  rw [show (32 : Int) = ((32 : Nat) : Int) from rfl, shr_pow _ 32 (by omega) _ rfl, shl_pow _ 32 (by omega), show ((2 ^ 32 : Nat) : Int) = 4294967296 from rfl, wrap_i64, wrap_i32]
  split <;> split <;> omega
theorem i64i16 (a : Int) : IntKind.wrap .i64 (IntKind.wrap .i16 a) = IntKind.wrap .i16 a := by
  rw [wrap_i16, wrap_i64]; split <;> split <;> omega
theorem i64i8 (a : Int) : IntKind.wrap .i64 (IntKind.wrap .i8 a) = IntKind.wrap .i8 a := by
  rw [wrap_i8, wrap_i64]; split <;> split <;> omega
theorem lolo (a : Int) : IntKind.wrap .u64 a % 4294967296 = a % 4294967296 := by rw [wrap_u64]; omega
theorem ext_eq (a b : Int) (w : Bool) : s14 a b w = s15 a b w := by
  by_cases h1 : b = 8
  · subst h1
    cases w
    · simp [s14, s15, S14f, S15f, tt_eq, wrap_nn, show IntKind.wrap .u64 (IntKind.wrap .i64 56) = 56 from rfl, sx8, i64i8, and_lo, low_eq, lolo]
    · simp [s14, s15, S14t, S15t, tt_eq, wrap_nn, show IntKind.wrap .u64 (IntKind.wrap .i64 56) = 56 from rfl, sx8, i64i8, and_lo, low_eq, lolo]
  by_cases h2 : b = 16
  · subst h2
    cases w
    · simp [s14, s15, S14f, S15f, tt_eq, wrap_nn, show IntKind.wrap .u64 (IntKind.wrap .i64 48) = 48 from rfl, sx16, i64i16, and_lo, low_eq, lolo]
    · simp [s14, s15, S14t, S15t, tt_eq, wrap_nn, show IntKind.wrap .u64 (IntKind.wrap .i64 48) = 48 from rfl, sx16, i64i16, and_lo, low_eq, lolo]
  by_cases h3 : b = 32
  · subst h3
    cases w
    · simp [s14, s15, S14f, S15f]
    · simp [s14, s15, S14t, S15t, tt_eq, wrap_nn, show IntKind.wrap .u64 (IntKind.wrap .i64 32) = 32 from rfl, sx32, i64i32, and_lo, low_eq, lolo]
  cases w <;> simp [s14, s15, S14t, S15t, S14f, S15f, h1, h2, h3]
theorem cut_eq (a b : Int) (ha : inU a = true) : s18 a b = s19 a b := by
  have ha := inU_iff.1 ha
  by_cases h1 : b = 16
  · subst h1
    have e : ishr .u64 (ishl .u64 a 48) 48 = iand .u64 a 65535 := by
      rw [show (48 : Int) = ((48 : Nat) : Int) from rfl, shr_pow _ 48 (by omega) _ rfl, shl_pow _ 48 (by omega), show ((2 ^ 48 : Nat) : Int) = 281474976710656 from rfl]
      have h : iand .u64 a 65535 = a % 65536 := and_mask a 16 (by omega)
      rw [h]; omega
    simp [s18, s19, S18, S19, tt_eq, show IntKind.wrap .i64 48 = 48 from rfl, e]
  by_cases h2 : b = 32
  · subst h2
    have e : ishr .u64 (ishl .u64 a 32) 32 = iand .u64 a 4294967295 := by
      rw [show (32 : Int) = ((32 : Nat) : Int) from rfl, shr_pow _ 32 (by omega) _ rfl, shl_pow _ 32 (by omega), show ((2 ^ 32 : Nat) : Int) = 4294967296 from rfl, and_lo]
      omega
    simp [s18, s19, S18, S19, tt_eq, show IntKind.wrap .i64 32 = 32 from rfl, e]
  by_cases h3 : b = 64
  · subst h3
    have e : ishr .u64 (ishl .u64 a 0) 0 = a := by
      rw [show (0 : Int) = ((0 : Nat) : Int) from rfl, shr_pow _ 0 (by omega) _ rfl, shl_pow _ 0 (by omega), show ((2 ^ 0 : Nat) : Int) = 1 from rfl]
      omega
    simp [s18, s19, S18, S19, tt_eq, show IntKind.wrap .i64 0 = 0 from rfl, e]
  simp [s18, s19, S18, S19, h1, h2, h3]
theorem l7_true (n bits : Int) (w : Bool) (hn : inU n = true) : SL7 Q n bits w = some true := by
  simp only [SL7, Q, ext_eq, swap_eq n bits hn, cut_eq n bits hn, decide_true, cond_true]
theorem aluBits_pure (n : Int) (hn : WF (.int .u64) n) (b : Int) (_ : WF (.int .i64) b) (w : Bool) (_ : WF .bool w) : PureOK Try.prog 7 [vU n, vI b, vB w] ⟨.bool, true⟩ :=
  fnT_pure Try.tabOK K3_ok mix Try.func7 (lf := 100) ((tL7 Q n b w).trans (l7_true n b w (inU_wf hn)))
end Go.Proofs
