import Derived.Test.YteidebhnjkbbeaaI
import Derived.Test.YteidebhnjkbbeaaGc
namespace Go.Proofs
open Go.GX
set_option linter.unusedVariables false
set_option linter.unusedSimpArgs false
theorem F41_eq (a b : Int) : F41 (a, b, ()) = knw a b ∧ G41 (a, b, ()) = true := ⟨rfl, rfl⟩
theorem F9_eq (a : Tn) : F9 (a, ()) = knw a.1 a.2.1 ∧ G9 (a, ()) = true := ⟨rfl, rfl⟩
theorem E30_eq (z : Unit) (a b : Tn) : E30 (z, a, b, ()) = some (addT a b) := by
  show S30 F41 G41 z a b = _
  unfold S30
  rw [(F41_eq _ _).1, (F41_eq _ _).2]; rfl
theorem F30_eq (z : Unit) (a b : Tn) : F30 (z, a, b, ()) = addT a b ∧ G30 (z, a, b, ()) = true := ofE (E30_eq z a b)
theorem wrap_add (x y : Int) : IntKind.wrap .u64 (IntKind.wrap .u64 x + IntKind.wrap .u64 y) = IntKind.wrap .u64 (x + y) := by
  rw [wrap_u64, wrap_u64, wrap_u64, wrap_u64]; omega
theorem wrap_addl (x y : Int) : IntKind.wrap .u64 (IntKind.wrap .u64 x + y) = IntKind.wrap .u64 (x + y) := by
  rw [wrap_u64, wrap_u64, wrap_u64]; omega
theorem ixor_comm (a b : Int) : ixor .u64 a b = ixor .u64 b a := by rw [ixor_n, ixor_n, Nat.xor_comm]
theorem E36_eq (a b : Tn) : E36 (a, b, ()) = some (addT a b) := by
  show S36 a b = _
  unfold S36 addT knw
  have e : IntKind.wrap .u64 (IntKind.wrap .u64 (a.1 + b.1) + IntKind.wrap .u64 (a.2.1 + b.2.1)) = IntKind.wrap .u64 (IntKind.wrap .u64 (IntKind.wrap .u64 (a.1 + b.1) + a.2.1) + b.2.1) := by
    rw [wrap_add]; simp only [wrap_u64]; omega
  rw [e, ixor_comm]
theorem F36_eq (a b : Tn) : F36 (a, b, ()) = addT a b ∧ G36 (a, b, ()) = true := ofE (E36_eq a b)
theorem E31_eq (z : Unit) (a b : Tn) : E31 (z, a, b, ()) = some (subT a b) := by
  show S31 F41 G41 z a b = _
  unfold S31
  rw [(F41_eq _ _).1, (F41_eq _ _).2]; rfl
theorem E42_eq {x : Int} (hx : InR x) : E42 (x, ()) = some ((len x.toNat : Nat) : Int) := by
  obtain ⟨L, h1, h2, h3⟩ := len_some x hx
  have := BL_uniq h3 (BL_len _)
  subst this
  exact h1
theorem F42_eq {x : Int} (hx : InR x) : F42 (x, ()) = ((len x.toNat : Nat) : Int) ∧ G42 (x, ()) = true := ofE (E42_eq hx)
theorem knw0 (m : Int) : knw 0 m = (0, m, ()) := by
  unfold knw
  have : iandn .u64 0 m = 0 := bits_eq (inR_iandn _ _) inR0 (fun i => by rw [bit_iandn, bit0]; rfl)
  rw [this]
theorem V32_in {a b c : Tn} {r : Tn} {L i : Nat} (hL : L ≤ 64) (hi : i < L) :
    V32_0 ((), (), (), (), (), (L : Int), (i : Int), (), a, b, c, r, ()) = some (.inl ((), (), (), (), (), (L : Int), ((i + 1 : Nat) : Int), (), a, b, c, mulS a b i r, ())) := by
  unfold V32_0 R32_0
  dsimp only
  simp only [(F41_eq _ _).1, (F41_eq _ _).2, (F30_eq _ _ _).1, (F30_eq _ _ _).2, knw0]
  rw [wi64 (a := (i : Int) + 1) (by omega), shr_n _ i (by omega), shr_n _ i (by omega), and1, and1]
  have ob : decide (0 ≤ (i : Int)) = true := decide_eq_true (by omega)
  rw [ob]
  refine (bif_t (decide_eq_true (by omega))).trans ?_
  unfold mulS
  rw [Bool.cond_decide, Bool.cond_decide]
  by_cases h1 : a.1 / ((2 ^ i : Nat) : Int) % 2 = 1
  · rw [if_pos h1, if_pos h1]; rfl
  · rw [if_neg h1, if_neg h1]
    by_cases h2 : a.2.1 / ((2 ^ i : Nat) : Int) % 2 = 1
    · rw [if_pos h2, if_pos h2]; rfl
    · rw [if_neg h2, if_neg h2]; rfl
theorem V32_end {a b c : Tn} {r : Tn} {L : Nat} : V32_0 ((), (), (), (), (), (L : Int), (L : Int), (), a, b, c, r, ()) = some (.inr ((), (), (), (), (), (), a, b, c, r, ())) := by
  unfold V32_0 R32_0
  exact bif_f (decide_eq_false (by dsimp only; omega))
theorem F38_eq {n : Int} (h : InR n) : F38 (n, ()) = (n, 0, ()) ∧ G38 (n, ()) = true := by
  have : iandn .u64 n 0 = n := bits_eq (inR_iandn _ _) h (fun i => by rw [bit_iandn, bit0]; simp)
  refine ⟨?_, rfl⟩
  show (iandn .u64 n 0, (0 : Int), ()) = _
  rw [this]
theorem or_lt (a : Tn) : u a.1 ||| u a.2.1 < 2 ^ 64 := Nat.or_lt_two_pow (u_lt _) (u_lt _)
theorem E32_eq (a b : Tn) : E32 ((), a, b, ()) = some (mulT a b) := by
  show S32 F30 G30 F38 G38 F41 G41 F42 G42 W32_0 Q32_0 () a b = _
  have hx : InR (ior .u64 a.1 a.2.1) := inR_ior _ _
  have ht : (ior .u64 a.1 a.2.1).toNat = u a.1 ||| u a.2.1 := by rw [ior_n]; rfl
  have hw := (wh_steps (f := V32_0) (fun i => ((), (), (), (), (), ((mulL a : Nat) : Int), (i : Int), (), a, b, (0, 0, ()), mulR a b i, ())) (mulL a) (fun i hi => V32_in (len_le (or_lt a)) hi)).trans (wh_stop V32_end)
  have e1 : W32_0 ((), (), (), (), (), ((mulL a : Nat) : Int), 0, (), a, b, (0, 0, ()), (0, 0, ()), ()) = _ := whV_of (hd := hd32_0) (ys := ys32_0) hw
  have e2 : Q32_0 ((), (), (), (), (), ((mulL a : Nat) : Int), 0, (), a, b, (0, 0, ()), (0, 0, ()), ()) = true := whK_of (hd := hd32_0) (ys := ys32_0) hw
  unfold S32
  rw [(F42_eq hx).1, (F42_eq hx).2, ht, (F41_eq _ _).1, (F41_eq _ _).2, knw0]
  change (bif _ && (Q32_0 ((), (), (), (), (), ((mulL a : Nat) : Int), 0, (), a, b, (0, 0, ()), (0, 0, ()), ()) && _) then some (F30 (_, F38 (IntKind.wrap .u64 ((W32_0 ((), (), (), (), (), ((mulL a : Nat) : Int), 0, (), a, b, (0, 0, ()), (0, 0, ()), ())).2.2.2.2.2.2.1.1 * (W32_0 ((), (), (), (), (), ((mulL a : Nat) : Int), 0, (), a, b, (0, 0, ()), (0, 0, ()), ())).2.2.2.2.2.2.2.1.1), ()), (W32_0 ((), (), (), (), (), ((mulL a : Nat) : Int), 0, (), a, b, (0, 0, ()), (0, 0, ()), ())).2.2.2.2.2.2.2.2.2.1, ())) else none) = _
  rw [e1, e2]
  dsimp only
  rw [show F38 (IntKind.wrap .u64 (a.1 * b.1), ()) = (IntKind.wrap .u64 (a.1 * b.1), 0, ()) from (F38_eq (inR_wrap (a.1 * b.1))).1]
  simp only [(F30_eq _ _ _).1]
  refine (bif_t ?_).trans rfl
  have g30 : ∀ z x y, G30 (z, x, y, ()) = true := fun z x y => (F30_eq z x y).2
  have g38 : ∀ n, G38 (n, ()) = true := fun n => rfl
  simp only [g30, g38, tt_eq, Bool.and_true]
end Go.Proofs
