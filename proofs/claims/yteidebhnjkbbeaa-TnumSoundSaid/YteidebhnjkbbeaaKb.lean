import Derived.Test.YteidebhnjkbbeaaKa
namespace Go.Proofs
open Go.GX
set_option linter.unusedVariables false
set_option linter.unusedSimpArgs false
def shN (b : Int) (i : Nat) : Int := IntKind.wrap .u64 (b * ((2 ^ i : Nat) : Int))
def dvN (a : Int) (i : Nat) : Int := a / ((2 ^ i : Nat) : Int)
theorem shN0 {b : Int} (h : InR b) : shN b 0 = b := by unfold shN; rw [Nat.pow_zero]; rw [show b * ((1 : Nat) : Int) = b by omega]; exact wu64 h
theorem dvN0 (a : Int) : dvN a 0 = a := by unfold dvN; rw [Nat.pow_zero]; omega
theorem shN_succ (b : Int) (i : Nat) : ishl .u64 (shN b i) 1 = shN b (i + 1) := by
  rw [ishl_k .u64 _ 1 1 2 rfl rfl]
  unfold shN
  rw [wrap_u64, wrap_u64, wrap_u64, Nat.pow_succ]
  rw [show b * ((2 ^ i * 2 : Nat) : Int) = b * ((2 ^ i : Nat) : Int) * 2 by push_cast; rw [Int.mul_assoc]]
  omega
theorem dvN_succ {a : Int} (h : InR a) (i : Nat) : ishr .u64 (dvN a i) 1 = dvN a (i + 1) := by
  rw [ishr_k .u64 _ 1 1 2 rfl rfl]
  unfold dvN
  obtain ⟨m, rfl⟩ : ∃ m : Nat, a = (m : Int) := ⟨a.toNat, (Int.toNat_of_nonneg h.1).symm⟩
  rw [← Int.natCast_ediv, ← Int.natCast_ediv, Nat.pow_succ, ← Nat.div_div_eq_div_mul]
  omega
theorem dvN_zero {a : Int} (h : InR a) {i : Nat} : dvN a i = 0 ↔ u a < 2 ^ i := by
  unfold dvN
  have hu := u_of h
  rw [← hu, ← Int.natCast_ediv]
  rw [show u ((u a : Nat) : Int) = u a by rw [hu]]
  have h0 : 0 < 2 ^ i := Nat.pow_pos (by omega)
  constructor
  · intro e
    have e : u a / 2 ^ i = 0 := by exact_mod_cast e
    rcases (Nat.div_eq_zero_iff).1 e with e | e
    · omega
    · exact e
  · intro e
    rw [Nat.div_eq_of_lt e]; rfl
theorem more {a : Tn} (ha : RT a) {i : Nat} : (dvN a.1 i = 0 ∧ dvN a.2.1 i = 0) ↔ mulL a ≤ i := by
  rw [dvN_zero ha.1, dvN_zero ha.2]
  have hb := BL_len (u a.1 ||| u a.2.1)
  constructor
  · rintro ⟨h1, h2⟩
    have h3 := Nat.or_lt_two_pow h1 h2
    rcases hb.2 with e | e
    · show mulL a ≤ i; unfold mulL; omega
    · apply Nat.le_of_not_lt
      intro hlt
      have : 2 ^ i ≤ 2 ^ (len (u a.1 ||| u a.2.1) - 1) := Nat.pow_le_pow_right (by omega) (by unfold mulL at hlt; omega)
      omega
  · intro h
    have h1 : 2 ^ mulL a ≤ 2 ^ i := Nat.pow_le_pow_right (by omega) h
    have h2 : u a.1 ||| u a.2.1 < 2 ^ mulL a := hb.1
    have h3 : u a.1 ≤ u a.1 ||| u a.2.1 := Nat.left_le_or
    have h4 : u a.2.1 ≤ u a.1 ||| u a.2.1 := Nat.right_le_or
    omega
theorem V37_in {a b c d : Tn} (ha : RT a) {i : Nat} (hi : i < mulL a) :
    V37_0 ((), (), (), (), (), (dvN a.1 i, dvN a.2.1 i, ()), (shN b.1 i, shN b.2.1 i, ()), c, d, mulR a b i, ()) = some (.inl ((), (), (), (), (), (dvN a.1 (i + 1), dvN a.2.1 (i + 1), ()), (shN b.1 (i + 1), shN b.2.1 (i + 1), ()), c, d, mulR a b (i + 1), ())) := by
  have hL := len_le (or_lt a)
  have hm := mt (more (i := i) ha).1 (by omega)
  unfold V37_0 R37_0
  dsimp only
  simp only [(F36_eq _ _).1, (F36_eq _ _).2]
  rw [dvN_succ ha.1, dvN_succ ha.2, shN_succ, shN_succ, and1, and1]
  refine (bif_t ?_).trans ?_
  · rw [tt_eq]
    by_cases h1 : dvN a.1 i = 0
    · have h2 : ¬ dvN a.2.1 i = 0 := fun h2 => hm ⟨h1, h2⟩
      rw [decide_eq_false h2]; simp
    · rw [decide_eq_false h1]; rfl
  · show _ = some (Sum.inl ((), (), (), (), (), (dvN a.1 (i + 1), dvN a.2.1 (i + 1), ()), (shN b.1 (i + 1), shN b.2.1 (i + 1), ()), c, d, mulS a b i (mulR a b i), ()))
    unfold mulS
    rw [shl_n _ (show i ≤ 64 by unfold mulL at hi; omega), shl_n _ (show i ≤ 64 by unfold mulL at hi; omega)]
    rw [Bool.cond_decide, Bool.cond_decide]
    by_cases h1 : a.1 / ((2 ^ i : Nat) : Int) % 2 = 1
    · rw [if_pos h1, if_pos (show dvN a.1 i % 2 = 1 from h1)]; rfl
    · rw [if_neg h1, if_neg (show ¬ dvN a.1 i % 2 = 1 from h1)]
      by_cases h2 : a.2.1 / ((2 ^ i : Nat) : Int) % 2 = 1
      · rw [if_pos h2, if_pos (show dvN a.2.1 i % 2 = 1 from h2)]; rfl
      · rw [if_neg h2, if_neg (show ¬ dvN a.2.1 i % 2 = 1 from h2)]
theorem V37_end {a b c d r : Tn} (ha : RT a) : V37_0 ((), (), (), (), (), (dvN a.1 (mulL a), dvN a.2.1 (mulL a), ()), b, c, d, r, ()) = some (.inr ((), (), (), c, d, r, ())) := by
  have hm := (more (i := mulL a) ha).2 (Nat.le_refl _)
  unfold V37_0 R37_0
  refine bif_f ?_
  dsimp only
  rw [hm.1, hm.2]; rfl
theorem E37_eq {a b : Tn} (ha : RT a) (hb : RT b) : E37 (a, b, ()) = some (mulT a b) := by
  show S37 F36 G36 W37_0 Q37_0 a b = _
  have hw := (wh_steps (f := V37_0) (fun i => ((), (), (), (), (), (dvN a.1 i, dvN a.2.1 i, ()), (shN b.1 i, shN b.2.1 i, ()), (0, 0, ()), (IntKind.wrap .u64 (a.1 * b.1), 0, ()), mulR a b i, ())) (mulL a) (fun i hi => V37_in ha hi)).trans (wh_stop (V37_end ha))
  simp only [dvN0, shN0 hb.1, shN0 hb.2] at hw
  have e1 : W37_0 ((), (), (), (), (), a, b, (0, 0, ()), (IntKind.wrap .u64 (a.1 * b.1), 0, ()), (0, 0, ()), ()) = _ := whV_of (hd := hd37_0) (ys := ys37_0) hw
  have e2 : Q37_0 ((), (), (), (), (), a, b, (0, 0, ()), (IntKind.wrap .u64 (a.1 * b.1), 0, ()), (0, 0, ()), ()) = true := whK_of (hd := hd37_0) (ys := ys37_0) hw
  unfold S37
  rw [e1, e2]
  dsimp only
  rw [(F36_eq _ _).1, (F36_eq _ _).2]
  rfl
/-! ## The operations -/
def binT (op : Int) (a b : Tn) : Tn × Int × Unit :=
  if op = 0 then (addT a b, 0, ()) else if op = 16 then (subT a b, 0, ()) else if op = 32 then (mulT a b, 0, ())
  else if op = 64 then ((ior .u64 a.1 b.1, iandn .u64 (ior .u64 a.2.1 b.2.1) (ior .u64 a.1 b.1), ()), 0, ())
  else if op = 80 then ((iand .u64 a.1 b.1, iandn .u64 (iand .u64 (ior .u64 a.1 a.2.1) (ior .u64 b.1 b.2.1)) (iand .u64 a.1 b.1), ()), 0, ())
  else if op = 160 then (knw (ixor .u64 a.1 b.1) (ior .u64 a.2.1 b.2.1), 0, ()) else ((0, 0, ()), 1, ())
theorem F31_eq (z : Unit) (a b : Tn) : F31 (z, a, b, ()) = subT a b ∧ G31 (z, a, b, ()) = true := ofE (E31_eq z a b)
theorem F32_eq (a b : Tn) : F32 ((), a, b, ()) = mulT a b ∧ G32 ((), a, b, ()) = true := ofE (E32_eq a b)
theorem F37_eq {a b : Tn} (ha : RT a) (hb : RT b) : F37 (a, b, ()) = mulT a b ∧ G37 (a, b, ()) = true := ofE (E37_eq ha hb)
theorem E10_eq (op : Int) (a b : Tn) : E10 (op, a, b, ()) = some (binT op a b) := by
  show S10 F30 G30 F31 G31 F32 G32 F33 G33 F34 G34 F35 G35 op a b = _
  unfold S10 binT
  rw [(F30_eq _ _ _).1, (F30_eq _ _ _).2, (F31_eq _ _ _).1, (F31_eq _ _ _).2, (F32_eq _ _).1, (F32_eq _ _).2]
  simp only [Bool.cond_decide]
  repeat' split
  all_goals rfl
theorem E11_eq (op : Int) {a b : Tn} (ha : RT a) (hb : RT b) : E11 (op, a, b, ()) = some (binT op a b) := by
  show S11 F36 G36 F37 G37 op a b = _
  unfold S11 binT
  rw [(F36_eq _ _).1, (F36_eq _ _).2, (F37_eq ha hb).1, (F37_eq ha hb).2]
  simp only [Bool.cond_decide]
  repeat' split
  all_goals rfl
theorem F10_eq (op : Int) (a b : Tn) : F10 (op, a, b, ()) = binT op a b ∧ G10 (op, a, b, ()) = true := ofE (E10_eq op a b)
theorem F11_eq (op : Int) {a b : Tn} (ha : RT a) (hb : RT b) : F11 (op, a, b, ()) = binT op a b ∧ G11 (op, a, b, ()) = true := ofE (E11_eq op ha hb)
theorem RT_knw {v m : Int} (h : InR m) : RT (knw v m) := ⟨inR_iandn _ _, h⟩
theorem E3_eq (op : Int) {a b : Tn} (ha : RT a) (hb : RT b) : E3 (op, a, b, ()) = some true := by
  show S3 F9 G9 F10 G10 F11 G11 F12 G12 op a b = _
  unfold S3
  rw [(F9_eq a).1, (F9_eq a).2, (F9_eq b).1, (F9_eq b).2]
  have h1 := RT_knw (v := a.1) ha.2
  have h2 := RT_knw (v := b.1) hb.2
  rw [(F10_eq _ _ _).1, (F10_eq _ _ _).2, (F11_eq op h1 h2).1, (F11_eq op h1 h2).2]
  exact (bif_t (by simp)).trans ((bif_t (decide_eq_true rfl)).trans rfl)
end Go.Proofs
