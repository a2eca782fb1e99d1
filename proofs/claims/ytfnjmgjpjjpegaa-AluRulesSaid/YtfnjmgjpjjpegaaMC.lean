import Derived.Test.YtfnjmgjpjjpegaaBB
namespace Go.Proofs
open Go.GX
set_option linter.unusedVariables false
set_option linter.unusedSimpArgs false
theorem tt_eq (n : Nat) (b : Bool) : tt n b = b := by
  induction n with
  | zero => rfl
  | succ n ih => simp [tt, ih]
theorem inU_iff {b : Int} : inU b = true ↔ 0 ≤ b ∧ b < 18446744073709551616 := by simp [inU]
theorem wrap_r (a : Int) : 0 ≤ IntKind.wrap .u64 a ∧ IntKind.wrap .u64 a < 18446744073709551616 := by rw [wrap_u64]; omega
theorem inU_wrap (a : Int) : inU (IntKind.wrap .u64 a) = true := inU_iff.2 (wrap_r a)
theorem ior_u64 (a b : Int) : ior .u64 a b = (((a % 18446744073709551616).toNat ||| (b % 18446744073709551616).toNat : Nat) : Int) := by
  unfold ior
  rw [BitVec.toNat_or, ofInt64, ofInt64, wrap_u64]
  have h1 : (a % 18446744073709551616).toNat < 2 ^ 64 := by omega
  have h2 : (b % 18446744073709551616).toNat < 2 ^ 64 := by omega
  have := Nat.or_lt_two_pow h1 h2
  omega
-- Bin: what it answers
theorem bin_some (op : Int) (w s : Bool) (a b : Int) (ha : inU a = true) (hb : inU b = true) : Bn op w s a b = some (s9 op w s a b) ∧ Bm op w s a b = some (s10 op w s a b) ∧ s9 op w s a b = s10 op w s a b := by
  have ha := inU_iff.1 ha
  have hb := inU_iff.1 hb
  have : ∃ r, Bn op w s a b = some r ∧ Bm op w s a b = some r := by
    cases w <;> cases s
    · exact bin_ff op a b
    · exact bin_ft op a b
    · exact bin_tf op a b ha hb
    · exact bin_tt op a b ha hb
  obtain ⟨r, h1, h2⟩ := this
  simp [s9, s10, h1, h2]
theorem bin_low (op : Int) (s : Bool) (a b c d : Int) (h1 : a % 4294967296 = c % 4294967296) (h2 : b % 4294967296 = d % 4294967296) : s9 op false s a b = s9 op false s c d := by
  cases s <;> simp only [s9, Bn, S9ff, S9ft, and_lo, h1, h2, cond_false, cond_true]
theorem test_low (op : Int) (a b c d : Int) (h1 : a % 4294967296 = c % 4294967296) (h2 : b % 4294967296 = d % 4294967296) : s12 op false a b = s12 op false c d := by
  simp only [s12, S12, lo32_eq, h1, h2, cond_false]
theorem or_low (x y : Int) : ior .u64 (iand .u64 x 4294967295) (ishl .u64 y 32) % 4294967296 = x % 4294967296 := by
  rw [and_lo, ior_u64]
  have e : ((x % 4294967296 % 18446744073709551616).toNat) = (x % 4294967296).toNat := by omega
  have hy : ∃ k : Nat, (ishl .u64 y 32 % 18446744073709551616).toNat = 4294967296 * k := by
    unfold ishl
    simp only [IntKind.bits, show (min (32 : Int).toNat 64) = 32 from rfl]
    rw [wrap_u64, show (2 ^ 32 : Int) = 4294967296 from rfl]
    exact ⟨(y % 4294967296).toNat, by omega⟩
  obtain ⟨k, hk⟩ := hy
  rw [e, hk]
  have hor : ((x % 4294967296).toNat ||| 4294967296 * k) = 2 ^ 32 * k + (x % 4294967296).toNat := by
    have := Nat.two_pow_add_eq_or_of_lt (i := 32) (b := (x % 4294967296).toNat) (by omega) k
    rw [this, Nat.or_comm]
  rw [hor]; omega
theorem cases_none {α : Type} {c : Bool} {x : α} : (bif c then some x else none) = if c = true then some x else none := by cases c <;> rfl
theorem bin_hi (op : Int) (s : Bool) (a b : Int) : ishr .u64 (s9 op false s a b).1 32 = 0 := by
  have hw : ∀ n : Int, ishr .u64 (IntKind.wrap .u64 (IntKind.wrap .u32 n)) 32 = 0 := by
    intro n
    rw [low_eq]
    unfold ishr
    simp only [IntKind.bits, show (min (32 : Int).toNat 64) = 32 from rfl]
    rw [show (2 ^ 32 : Int) = 4294967296 from rfl, Int.fdiv_eq_ediv_of_nonneg _ (by omega)]
    omega
  have h0 : ishr .u64 0 32 = 0 := by decide
  have key : ∀ (o : Option (Int × Int × Unit)), (∀ r, o = some r → ishr .u64 r.1 32 = 0) → ishr .u64 (o.getD (0, 0, ())).1 32 = 0 := by
    intro o h
    cases o with
    | none => exact h0
    | some r => exact h r rfl
  unfold s9
  apply key
  have kc : ∀ (c : Bool) (x y : Option (Int × Int × Unit)), (∀ r, x = some r → ishr .u64 r.1 32 = 0) → (∀ r, y = some r → ishr .u64 r.1 32 = 0) → ∀ r, (bif c then x else y) = some r → ishr .u64 r.1 32 = 0 := by
    intro c x y hx hy r; cases c
    · exact hy r
    · exact hx r
  have ks : ∀ (x : Int × Int × Unit), ishr .u64 x.1 32 = 0 → ∀ r, some x = some r → ishr .u64 r.1 32 = 0 := by
    intro x hx r h; cases h; exact hx
  have kn : ∀ r, (none : Option (Int × Int × Unit)) = some r → ishr .u64 r.1 32 = 0 := fun r h => by cases h
  cases s <;> simp only [Bn, cond_false, cond_true, S9ff, S9ft] <;>
    repeat (first | with_reducible (refine kc _ _ _ ?_ ?_) | with_reducible exact kn | (with_reducible refine ks _ ?_; first | with_reducible exact hw _ | exact h0))
def inU2 (a b : Int) : Bool := inU a && inU b
def Q : Sp := ⟨s9, s10, s12, s13, s14, s15, s16, s17, s18, s19, inU2⟩
theorem l5_true (op : Int) (s : Bool) (n : List Int) (hn : ∀ i, inU (n.getD i 0) = true) : SL5 Q op s n = some true := by
  have hx : inU (ior .u64 (iand .u64 (n.getD 1 0) 4294967295) (ishl .u64 (n.getD 3 0) 32)) = true := by
    unfold ior; exact inU_wrap _
  have hx0 : inU (ior .u64 (iand .u64 (n.getD 0 0) 4294967295) (ishl .u64 (n.getD 2 0) 32)) = true := by
    unfold ior; exact inU_wrap _
  have hb := bin_low op s _ _ _ _ (or_low (n.getD 0 0) (n.getD 2 0)).symm (or_low (n.getD 1 0) (n.getD 3 0)).symm
  have ht := test_low op _ _ _ _ (or_low (n.getD 0 0) (n.getD 2 0)).symm (or_low (n.getD 1 0) (n.getD 3 0)).symm
  simp only [SL5, Q, ← hb, ← ht, inU2, hx, hx0, hn, tt_eq, bin_hi, decide_true, cond_true, Bool.and_self, beq_self_eq_true]
theorem l3_true (op : Int) (h : List Bool) (n : List Int) (hn : ∀ i, inU (n.getD i 0) = true) : SL3 Q op h n = some true := by
  have := (bin_some op (h.getD 0 false) (h.getD 1 false) _ _ (hn 0) (hn 1)).2.2
  simp only [SL3, Q, this, inU2, hn, tt_eq, decide_true, cond_true, Bool.and_self]
end Go.Proofs
