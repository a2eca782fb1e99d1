import Derived.Test.YtfnjmgjpjjpegaaMH
namespace Go.Proofs
open Go.GX
set_option linter.unusedVariables false
set_option linter.unusedSimpArgs false
theorem shl_nat (x : Int) (e : Int) (k : Nat) (he : e = k) (hk : k ≤ 64) : ishl .u64 x e = (x * ((2 ^ k : Nat) : Int)) % 18446744073709551616 := by subst he; exact shl_pow x k hk
theorem shr_nat (x : Int) (e : Int) (k : Nat) (he : e = k) (hk : k ≤ 64) : ishr .u64 x e = x / ((2 ^ k : Nat) : Int) := by subst he; exact shr_pow x k hk _ rfl
theorem pow_r (k m : Nat) (h : k < m) : 0 < ((2 ^ k : Nat) : Int) ∧ ((2 ^ k : Nat) : Int) < ((2 ^ m : Nat) : Int) := by
  have h1 : 0 < 2 ^ k := Nat.pow_pos (by omega)
  have h2 : 2 ^ k < 2 ^ m := Nat.pow_lt_pow_right (by omega) h
  omega
theorem l6t_true (n d : Int) (hn : inU n = true) : SL6t Q n d = some true := by
  have hn' := inU_iff.1 hn
  obtain ⟨k, hk⟩ : ∃ k : Nat, d % 64 = k := ⟨(d % 64).toNat, by omega⟩
  have hk64 : k < 64 := by omega
  have hp := pow_r k 64 hk64
  have h64 : ((2 ^ 64 : Nat) : Int) = 18446744073709551616 := rfl
  rw [h64] at hp
  have e1 : IntKind.wrap .u64 (k : Int) = k := by rw [wrap_u64]; omega
  have e2 : IntKind.wrap .u64 (IntKind.wrap .i64 ((k : Int) + 64)) = k + 64 := by rw [wrap_i64, wrap_u64]; split <;> omega
  have ep : ishl .u64 1 (k : Int) = ((2 ^ k : Nat) : Int) := by rw [shl_nat 1 k k rfl (by omega)]; omega
  generalize hP : ((2 ^ k : Nat) : Int) = p at hp ep
  have i1 : inU (k : Int) = true := inU_iff.2 (by omega)
  have i2 : inU ((k : Int) + 64) = true := inU_iff.2 (by omega)
  have i3 : inU p = true := inU_iff.2 (by omega)
  have c1 : (s9 96 true false n k).1 = (s9 32 true false n p).1 := by
    rw [shl_w n k (by omega), mul_w, shl_nat n _ k (by omega) (by omega), hP, wrap_u64]
  have c2 : (s9 112 true false n k).1 = (s9 48 true false n p).1 := by
    rw [shr_w n k (by omega), div_w n p i3, dv 48 n p true (.inl rfl) hn'.1, if_neg (by omega), if_pos rfl, shr_nat n _ k (by omega) (by omega), hP, Int.tdiv_eq_ediv_of_nonneg hn'.1, wrap_u64]
    have := Int.ediv_le_self p hn'.1
    have := Int.ediv_nonneg hn'.1 (show 0 ≤ p by omega)
    omega
  have c3 : (s9 96 true false n (k + 64)).1 = (s9 96 true false n k).1 := by
    rw [shl_w n _ (by omega), shl_w n _ (by omega), show ((k : Int) + 64) % 64 = (k : Int) % 64 from by omega]
  have z : decide (0 ≤ (k : Int)) = true := decide_eq_true (by omega)
  simp only [SL6t, Q, by64, hk, e1, e2, ep, inU2, i1, i2, i3, hn, c1, c2, c3, z, tt_eq, decide_true, cond_true, Bool.and_self]
theorem l6f_true (n d : Int) (hn : inU n = true) : SL6f Q n d = some true := by
  have hn' := inU_iff.1 hn
  obtain ⟨k, hk⟩ : ∃ k : Nat, d % 32 = k := ⟨(d % 32).toNat, by omega⟩
  have hk64 : k < 32 := by omega
  have hp := pow_r k 32 hk64
  have h64 : ((2 ^ 32 : Nat) : Int) = 4294967296 := rfl
  rw [h64] at hp
  have e1 : IntKind.wrap .u64 (k : Int) = k := by rw [wrap_u64]; omega
  have e2 : IntKind.wrap .u64 (IntKind.wrap .i64 ((k : Int) + 32)) = k + 32 := by rw [wrap_i64, wrap_u64]; split <;> omega
  have ep : ishl .u64 1 (k : Int) = ((2 ^ k : Nat) : Int) := by rw [shl_nat 1 k k rfl (by omega)]; omega
  generalize hP : ((2 ^ k : Nat) : Int) = p at hp ep
  have i1 : inU (k : Int) = true := inU_iff.2 (by omega)
  have i2 : inU ((k : Int) + 32) = true := inU_iff.2 (by omega)
  have i3 : inU p = true := inU_iff.2 (by omega)
  have hm := mod32r n
  have c1 : (s9 96 false false n k).1 = (s9 32 false false n p).1 := by
    rw [shl_n n k, mul_n, and_lo, and_lo, shl_nat (n % 4294967296) _ k (by omega) (by omega), hP, wrap_u64 (_ * _), show p % 4294967296 = p from by omega]
  have c2 : (s9 112 false false n k).1 = (s9 48 false false n p).1 := by
    rw [shr_n n k, div_n n p, dv 48 _ _ false (.inl rfl) hm.1, if_neg (by omega), if_pos rfl, shr_nat (n % 4294967296) _ k (by omega) (by omega), hP, Int.tdiv_eq_ediv_of_nonneg hm.1, wrap_u64 (_ / _), show p % 4294967296 = p from by omega]
    have h1 := Int.ediv_le_self p hm.1
    have h2 := Int.ediv_nonneg hm.1 (show 0 ≤ p by omega)
    rw [show (n % 4294967296 / p) % 18446744073709551616 = n % 4294967296 / p from by omega]
  have c3 : (s9 96 false false n (k + 32)).1 = (s9 96 false false n k).1 := by
    rw [shl_n n _, shl_n n _, show ((k : Int) + 32) % 4294967296 % 32 = (k : Int) % 4294967296 % 32 from by omega]
  have z : decide (0 ≤ (k : Int)) = true := decide_eq_true (by omega)
  simp only [SL6f, Q, by32, hk, e1, e2, ep, inU2, i1, i2, i3, hn, c1, c2, c3, z, tt_eq, decide_true, cond_true, Bool.and_self]
theorem aluShifts_pure (n : Int) (hn : WF (.int .u64) n) (d : Int) (_ : WF (.int .i64) d) (w : Bool) (_ : WF .bool w) : PureOK Try.prog 6 [vU n, vI d, vB w] ⟨.bool, true⟩ := by
  cases w
  · exact fnT_pure Try.tabOK K3_ok mix Try.func6 (lf := 100) ((tL6f Q n d).trans (l6f_true n d (inU_wf hn)))
  · exact fnT_pure Try.tabOK K3_ok mix Try.func6 (lf := 100) ((tL6t Q n d).trans (l6t_true n d (inU_wf hn)))
end Go.Proofs
