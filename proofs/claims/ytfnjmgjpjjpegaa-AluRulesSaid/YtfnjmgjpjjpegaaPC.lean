import Derived.Test.YtfnjmgjpjjpegaaME
namespace Go.Proofs
open Go.GX
set_option linter.unusedVariables false
set_option linter.unusedSimpArgs false
/-! Words that are put together from parts of one word: equal if they are for each bit alone. -/
inductive Wd where
  | x | zero | and (e : Wd) (c : Nat) | or (e f : Wd) | shl (e : Wd) (k : Nat) | shr (e : Wd) (k : Nat)
def Wd.ev : Wd → Nat → Nat
  | .x, a => a
  | .zero, _ => 0
  | .and e c, a => (e.ev a % 2 ^ 64) &&& (c % 2 ^ 64)
  | .or e f, a => (e.ev a % 2 ^ 64) ||| (f.ev a % 2 ^ 64)
  | .shl e k, a => (e.ev a * 2 ^ (min k 64)) % 2 ^ 64
  | .shr e k, a => e.ev a / 2 ^ (min k 64)
theorem mul_or (a b k : Nat) : (a ||| b) * 2 ^ k = a * 2 ^ k ||| b * 2 ^ k := by
  rw [← Nat.shiftLeft_eq, ← Nat.shiftLeft_eq, ← Nat.shiftLeft_eq, Nat.shiftLeft_or_distrib]
theorem div_or (a b k : Nat) : (a ||| b) / 2 ^ k = a / 2 ^ k ||| b / 2 ^ k := by
  rw [← Nat.shiftRight_eq_div_pow, ← Nat.shiftRight_eq_div_pow, ← Nat.shiftRight_eq_div_pow, Nat.shiftRight_or_distrib]
theorem Wd.lin (a b : Nat) : ∀ e : Wd, e.ev (a ||| b) = e.ev a ||| e.ev b
  | .x => rfl
  | .zero => by simp [ev]
  | .and e c => by simp only [ev]; rw [lin a b e, Nat.or_mod_two_pow, Nat.and_or_distrib_right]
  | .or e f => by
    simp only [ev]; rw [lin a b e, lin a b f, Nat.or_mod_two_pow, Nat.or_mod_two_pow]
    apply Nat.eq_of_testBit_eq; intro i; simp only [Nat.testBit_or]
    cases (e.ev a % 2 ^ 64).testBit i <;> cases (e.ev b % 2 ^ 64).testBit i <;> cases (f.ev a % 2 ^ 64).testBit i <;> cases (f.ev b % 2 ^ 64).testBit i <;> rfl
  | .shl e k => by simp only [ev]; rw [lin a b e, mul_or, Nat.or_mod_two_pow]
  | .shr e k => by simp only [ev]; rw [lin a b e, div_or]
theorem Wd.ev0 : ∀ e : Wd, e.ev 0 = 0
  | .x => rfl
  | .zero => rfl
  | .and e c => by simp [ev, ev0 e]
  | .or e f => by simp [ev, ev0 e, ev0 f]
  | .shl e k => by simp [ev, ev0 e]
  | .shr e k => by simp [ev, ev0 e]
theorem split_top (n a : Nat) (h : a < 2 ^ (n + 1)) : ∃ b, b < 2 ^ n ∧ (a = b ∨ a = b ||| 2 ^ n) := by
  by_cases c : a < 2 ^ n
  · exact ⟨a, c, .inl rfl⟩
  · have h2 : a - 2 ^ n < 2 ^ n := by rw [Nat.pow_succ] at h; omega
    refine ⟨a - 2 ^ n, h2, .inr ?_⟩
    have := Nat.two_pow_add_eq_or_of_lt (i := n) h2 1
    rw [Nat.mul_one] at this
    rw [Nat.or_comm, ← this]; omega
theorem Wd.basis {e f : Wd} (h : ((List.range 64).all fun i => Nat.beq (e.ev (2 ^ i)) (f.ev (2 ^ i))) = true) : ∀ (n : Nat), n ≤ 64 → ∀ a, a < 2 ^ n → e.ev a = f.ev a
  | 0, _, a, ha => by
    have : a = 0 := by simp at ha; exact ha
    rw [this, ev0, ev0]
  | n + 1, hn, a, ha => by
    obtain ⟨b, hb, h1⟩ := split_top n a ha
    have hb := basis h n (by omega) b hb
    rcases h1 with rfl | rfl
    · exact hb
    · rw [lin, lin, hb]
      have := List.all_eq_true.1 h n (by simp; omega)
      rw [Nat.eq_of_beq_eq_true this]
theorem w_and {m : Nat} {e : Wd} {c : Int} (hc : 0 ≤ c) : iand .u64 ((e.ev m : Nat) : Int) c = (((Wd.and e c.toNat).ev m : Nat) : Int) := by
  rw [iand_u64]
  simp only [Wd.ev]
  rw [show (((e.ev m : Nat) : Int) % 18446744073709551616).toNat = e.ev m % 2 ^ 64 from by omega, show (c % 18446744073709551616).toNat = c.toNat % 2 ^ 64 from by omega]
theorem w_or {m : Nat} {e f : Wd} : ior .u64 ((e.ev m : Nat) : Int) ((f.ev m : Nat) : Int) = (((Wd.or e f).ev m : Nat) : Int) := by
  rw [ior_u64]
  simp only [Wd.ev]
  rw [show (((e.ev m : Nat) : Int) % 18446744073709551616).toNat = e.ev m % 2 ^ 64 from by omega, show (((f.ev m : Nat) : Int) % 18446744073709551616).toNat = f.ev m % 2 ^ 64 from by omega]
theorem w_or0 {m : Nat} {f : Wd} : ior .u64 0 ((f.ev m : Nat) : Int) = (((Wd.or .zero f).ev m : Nat) : Int) := w_or (e := .zero)
theorem w_shl {m : Nat} {e : Wd} {k : Int} : ishl .u64 ((e.ev m : Nat) : Int) k = (((Wd.shl e k.toNat).ev m : Nat) : Int) := by
  unfold ishl
  simp only [Wd.ev, IntKind.bits]
  rw [wrap_u64]
  have h : ((2 : Int) ^ (min k.toNat 64)) = ((2 ^ (min k.toNat 64) : Nat) : Int) := by rw [Int.natCast_pow]; rfl
  rw [h, ← Int.natCast_mul]
  exact (Int.natCast_emod _ _).symm
theorem w_shr {m : Nat} {e : Wd} {k : Int} : ishr .u64 ((e.ev m : Nat) : Int) k = (((Wd.shr e k.toNat).ev m : Nat) : Int) := by
  unfold ishr
  simp only [Wd.ev, IntKind.bits]
  have h : ((2 : Int) ^ (min k.toNat 64)) = ((2 ^ (min k.toNat 64) : Nat) : Int) := by rw [Int.natCast_pow]; rfl
  rw [h, Int.fdiv_eq_ediv_of_nonneg _ (Int.natCast_nonneg _)]
  exact (Int.natCast_ediv _ _).symm
end Go.Proofs
