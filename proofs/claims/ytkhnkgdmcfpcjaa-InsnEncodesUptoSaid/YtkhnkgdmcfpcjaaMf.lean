import Derived.Test.YtkhnkgdmcfpcjaaMe
namespace Go.Proofs
open Go.GX
set_option linter.unusedVariables false
set_option linter.unusedSimpArgs false
theorem S6_eq (a b : List I) : E6 (a, b, ()) = S6 F8 G8 F13 G13 a b := rfl
theorem WL.app {a b : List I} (ha : WL a) (hb : WL b) (hl : a.length ≤ 1048576) (hm : b.length ≤ 1048576) : WL (a ++ b) :=
  ⟨by rw [List.length_append]; omega, fun x hx => by
    rcases List.mem_append.1 hx with h | h
    · exact ha.2 x h
    · exact hb.2 x h⟩
theorem E6_eq {a b : List I} (ha : WL a) (hb : WL b) (hl : a.length ≤ 1048576) (hm : b.length ≤ 1048576) : E6 (a, b, ()) = some true := by
  rw [S6_eq]
  unfold S6
  rw [sec_full (l := a) (n := 0 + a.length) (by omega), sec_full (l := a ++ b) (n := 0 + a.length + b.length) (by rw [List.length_append]; omega)]
  have hab := ha.app hb hl hm
  rw [(F8_eq ha).1, (F8_eq ha).2, (F8_eq hb).1, (F8_eq hb).2, (F8_eq hab).1, (F8_eq hab).2]
  rw [show F13 () = true from rfl, show G13 () = true from rfl]
  have o1 : (a.length + b.length) * 40 ≤ 140737488355328 := by omega
  cases hka : a.all okI
  · rw [encR_not hka, encR_not (l := a ++ b) (by rw [List.all_append, hka]; rfl)]
    refine (bif_t rfl).trans ((bif_t rfl).trans ((bif_t rfl).trans ((bif_t ?_).trans rfl)))
    simp only [tt_eq, Bool.and_eq_true, decide_eq_true_eq, true_and, and_true]
    omega
  · cases hkb : b.all okI
    · rw [encR_ok hka, encR_not hkb, encR_not (l := a ++ b) (by rw [List.all_append, hka, hkb]; rfl)]
      refine (bif_f rfl).trans ((bif_t rfl).trans ((bif_t rfl).trans ((bif_t rfl).trans ((bif_t ?_).trans rfl))))
      simp only [tt_eq, Bool.and_eq_true, decide_eq_true_eq, true_and, and_true]
      omega
    · rw [encR_ok hka, encR_ok hkb, encR_ok (l := a ++ b) (by rw [List.all_append, hka, hkb]; rfl), List.flatMap_append, bytesOf_app]
      have l1 := flatMap_len8 a
      have l2 := flatMap_len8 b
      refine (bif_f rfl).trans ((bif_f rfl).trans ((bif_t rfl).trans ((bif_t ?_).trans ((bif_t ?_).trans ((bif_t ?_).trans rfl)))))
      · simp
      · rw [decide_eq_true_eq, wi64 (by omega)]
        dsimp only
        omega
      · simp only [tt_eq, Bool.and_eq_true, decide_eq_true_eq, true_and, and_true]

        omega
theorem S7_eq (a : I) (m o : Int) : E7 (a, m, o, ()) = S7 F8 G8 F13 G13 a m o := rfl
theorem WL1 {a : I} (h : WI a) : WL [a] := ⟨by simp, fun x hx => by rw [List.mem_singleton] at hx; subst hx; exact h⟩
theorem encR1 {a : I} (h : okI a = true) : encR [a] = (bytesOf (byI a), 0, ()) := by
  rw [encR_ok (by rw [List.all_cons, h]; rfl)]
  rfl
theorem encR1n {a : I} (h : okI a = false) : encR [a] = ([], 30, ()) := encR_not (by rw [List.all_cons, h]; rfl)
theorem eq_iff {a b : I} (ha : okI a = true) (hb : okI b = true) : (bytesOf (byI a) == bytesOf (byI b)) = decide (a = b) := by
  rw [Bool.eq_iff_iff, beq_iff_eq, decide_eq_true_eq]
  constructor
  · intro h
    have := congrArg of8 h
    rwa [of8_by ha, of8_by hb] at this
  · intro h; rw [h]
theorem E7_eq {a : I} {m o : Int} (ha : WI a) (hm : i64 m) (ho : i64 o) : E7 (a, m, o, ()) = some true := by
  rw [S7_eq]
  obtain ⟨op, dst, src, off, imm, _⟩ := a
  have hj : WI (op, dst, src, off, m, ()) := ⟨ha.1, ha.2.1, ha.2.2.1, ha.2.2.2.1, hm⟩
  have hk : WI (op, dst, src, o, imm, ()) := ⟨ha.1, ha.2.1, ha.2.2.1, ho, ha.2.2.2.2⟩
  unfold S7
  dsimp only
  rw [(F8_eq (WL1 ha)).1, (F8_eq (WL1 ha)).2, (F8_eq (WL1 hj)).1, (F8_eq (WL1 hj)).2, (F8_eq (WL1 hk)).1, (F8_eq (WL1 hk)).2]
  rw [show F13 () = true from rfl, show G13 () = true from rfl]
  cases ki : okI (op, dst, src, off, imm, ())
  · rw [encR1n ki]; exact (bif_t rfl).trans rfl
  · rw [encR1 ki]
    cases kj : okI (op, dst, src, off, m, ())
    · rw [encR1n kj]; exact (bif_f rfl).trans ((bif_t rfl).trans rfl)
    · rw [encR1 kj]
      cases kk : okI (op, dst, src, o, imm, ())
      · rw [encR1n kk]; exact (bif_f rfl).trans ((bif_f rfl).trans ((bif_t rfl).trans rfl))
      · rw [encR1 kk]
        refine (bif_f rfl).trans ((bif_f rfl).trans ((bif_f rfl).trans ((bif_f rfl).trans ((bif_f rfl).trans ((bif_f rfl).trans ((bif_t (beq_iff_eq.2 rfl)).trans ((bif_t (beq_iff_eq.2 rfl)).trans ((bif_t (beq_iff_eq.2 rfl)).trans
          ((bif_t ?_).trans ((bif_t ?_).trans rfl))))))))))
        · dsimp only
          rw [eq_iff ki kj]
          simp
        · dsimp only
          rw [eq_iff ki kk]
          simp
/-! ## numbers in two slots; what a slot's Op says -/
theorem E14_eq (d n : Int) (h : 0 ≤ n) : E14 (d, n, ()) = some [(24, d, 0, 0, IntKind.wrap .i32 n, ()), (0, 0, 0, 0, IntKind.wrap .i32 (n / 4294967296), ())] := by
  have v0 : V14_0 (n, (), (), 0, [], [(24, d, 0, 0, 0, ())], ()) = some (.inl (n, (), (), 1, [], [(24, d, 0, 0, IntKind.wrap .i64 (IntKind.wrap .i32 (ishr .u64 n 0)), ())], ())) := by kernel_rfl
  have v1 : V14_0 (n, (), (), 1, [], [(24, d, 0, 0, IntKind.wrap .i64 (IntKind.wrap .i32 (ishr .u64 n 0)), ())], ()) = some (.inl (n, (), (), 2, [], [(24, d, 0, 0, IntKind.wrap .i64 (IntKind.wrap .i32 (ishr .u64 n 0)), ()), (0, 0, 0, 0, IntKind.wrap .i64 (IntKind.wrap .i32 (ishr .u64 n 32)), ())], ())) := by kernel_rfl
  have v2 : V14_0 (n, (), (), 2, [], [(24, d, 0, 0, IntKind.wrap .i64 (IntKind.wrap .i32 (ishr .u64 n 0)), ()), (0, 0, 0, 0, IntKind.wrap .i64 (IntKind.wrap .i32 (ishr .u64 n 32)), ())], ()) = some (.inr ((), (), [], [(24, d, 0, 0, IntKind.wrap .i64 (IntKind.wrap .i32 (ishr .u64 n 0)), ()), (0, 0, 0, 0, IntKind.wrap .i64 (IntKind.wrap .i32 (ishr .u64 n 32)), ())], ())) := by kernel_rfl
  have hw := (wh_next v0).trans ((wh_next v1).trans (wh_stop v2))
  have e0 : ishr .u64 n 0 = n := by rw [ishr_k .u64 n 0 0 1 rfl rfl]; omega
  have e32 : ishr .u64 n 32 = n / 4294967296 := ishr_k .u64 n 32 32 4294967296 rfl rfl
  have ej : ∀ a, IntKind.wrap .i64 (IntKind.wrap .i32 a) = IntKind.wrap .i32 a := fun a => wi64 (by rw [wrap_i32]; split <;> omega)
  rw [e0, e32, ej, ej] at hw
  have e1 := whV_of (hd := hd14_0) (ys := ys14_0) hw
  have e2 := whK_of (hd := hd14_0) (ys := ys14_0) hw
  show S14 W14_0 Q14_0 d n = _
  unfold S14
  rw [show W14_0 (n, (), (), 0, [], [(24, d, 0, 0, 0, ())], ()) = _ from e1, show Q14_0 (n, (), (), 0, [], [(24, d, 0, 0, 0, ())], ()) = true from e2]
  rfl
theorem E15_eq (d n : Int) : E15 (d, n, ()) = some [(24, d, 0, 0, IntKind.wrap .i32 n, ()), (0, 0, 0, 0, IntKind.wrap .i32 (n / 4294967296), ())] := by
  show S15 d n = _
  have e32 : ishr .u64 n 32 = n / 4294967296 := ishr_k .u64 n 32 32 4294967296 rfl rfl
  have ej : ∀ a, IntKind.wrap .i64 (IntKind.wrap .i32 a) = IntKind.wrap .i32 a := fun a => wi64 (by rw [wrap_i32]; split <;> omega)
  unfold S15
  rw [e32, ej, ej]
theorem shl32 (b : Int) : ishl .u64 (IntKind.wrap .u64 b) 32 = b % 4294967296 * 4294967296 := by
  rw [ishl_k .u64 _ 32 32 4294967296 rfl rfl, wrap_u64, wrap_u64]
  omega
theorem E16_eq (a b : I) : E16 (a, b, ()) = some (a.2.2.2.2.1 % 4294967296 + b.2.2.2.2.1 % 4294967296 * 4294967296) := by
  show S16 a b = _
  unfold S16
  rw [shl32, wrap_u32, wu64 (by omega), ior_add .u64 _ _ 4294967296 32 rfl (by omega) (by omega) (by show _ < (2:Int)^64; omega), wu64 (by omega), Int.add_comm]
theorem E22_eq (a b : I) : E22 (a, b, ()) = some (a.2.2.2.2.1 % 4294967296 + b.2.2.2.2.1 % 4294967296 * 4294967296) := by
  show S22 a b = _
  unfold S22
  rw [shl32, iand_low .u64 _ 4294967295 4294967296 32 rfl rfl (by decide), wrap_u64 a.2.2.2.2.1, wu64 (by omega)]
  congr 1; omega
theorem tm256 (a : Int) (h : i64 a) : Int.tmod (IntKind.wrap .i64 (Int.tmod a 256 + 256)) 256 = a % 256 := by
  have h1 : -256 < Int.tmod a 256 ∧ Int.tmod a 256 < 256 := ⟨by have := Int.lt_tmod_of_pos a (show (0:Int) < 256 by omega); omega, Int.tmod_lt_of_pos a (by omega)⟩
  rw [wi64 (by omega), Int.tmod_eq_emod_of_nonneg (by omega)]
  rw [Int.tmod_eq_emod]
  split <;> simp <;> omega
theorem E18_eq (a : I) : E18 (a, ()) = some (a.1 % 8) := by
  show S18 a = _
  unfold S18
  rw [iand_low .i64 _ 7 8 3 rfl rfl (by decide)]
theorem E19_eq (a : I) (h : WI a) : E19 (a, ()) = some (a.1 % 8) := by
  show S19 a = _
  unfold S19
  rw [iand_low .i64 _ 7 8 3 rfl rfl (by decide), tm256 _ h.1]
  congr 1; omega
theorem and24 (x : Nat) : x &&& 24 = x / 8 % 4 * 8 := by
  have h1 : x &&& 24 = (x % 32) &&& 24 := by
    rw [← Nat.and_two_pow_sub_one_eq_mod x 5, Nat.and_assoc]
    rfl
  have h2 : ∀ y, y < 32 → y &&& 24 = y / 8 % 4 * 8 := by decide
  rw [h1, h2 _ (Nat.mod_lt _ (by omega))]
  omega
theorem iand24 (a : Int) (h : i64 a) : iand .i64 a 24 = a / 8 % 4 * 8 := by
  unfold iand
  rw [BitVec.toNat_and, ofInt_nat (n := IntKind.bits .i64) (a := 24) (by omega) (by decide), show (24 : Int).toNat = 24 from rfl, and24, BitVec.toNat_ofInt]
  rw [wi64 (by omega)]
  show ((((a % ((2 ^ 64 : Nat) : Int)).toNat / 8 % 4 * 8 : Nat)) : Int) = _
  omega
theorem E17_eq (a : I) : E17 (a, ()) = some (decide (a.1 = 24)) := rfl
def szI (a : I) : Int := if a.1 % 8 = 0 ∨ a.1 % 8 > 3 then 0 else [4, 2, 1, 8].getD (a.1 / 8 % 4).toNat 0
theorem F18_eq (a : I) : F18 (a, ()) = a.1 % 8 ∧ G18 (a, ()) = true := ofE (E18_eq a)
theorem F19_eq (a : I) (h : WI a) : F19 (a, ()) = a.1 % 8 ∧ G19 (a, ()) = true := ofE (E19_eq a h)
theorem E20_eq (a : I) (h : WI a) : E20 (a, ()) = some (szI a) := by
  show S20 F18 G18 a = _
  unfold S20 szI
  rw [(F18_eq a).1, (F18_eq a).2, iand24 _ h.1]
  by_cases h0 : a.1 % 8 = 0
  · rw [if_pos (.inl h0)]; exact (bif_t (decide_eq_true h0)).trans rfl
  · by_cases h3 : a.1 % 8 > 3
    · rw [if_pos (.inr h3)]; exact (bif_f (decide_eq_false h0)).trans ((bif_t (decide_eq_true h3)).trans rfl)
    · rw [if_neg (by omega)]
      refine (bif_f (decide_eq_false h0)).trans ((bif_f (decide_eq_false h3)).trans ?_)
      have hr : a.1 / 8 % 4 = 0 ∨ a.1 / 8 % 4 = 1 ∨ a.1 / 8 % 4 = 2 ∨ a.1 / 8 % 4 = 3 := by omega
      rcases hr with e | e | e | e <;> rw [e] <;> rfl
theorem E21_eq (a : I) (h : WI a) : E21 (a, ()) = some (szI a) := by
  show S21 F19 G19 a = _
  unfold S21 szI
  rw [(F19_eq a h).1, (F19_eq a h).2, tm256 _ h.1, ishr_k .i64 _ 3 3 8 rfl rfl, iand_low .i64 _ 3 4 2 rfl rfl (by decide)]
  have e0 : a.1 % 256 / 8 % 4 = a.1 / 8 % 4 := by omega
  rw [e0]
  by_cases h0 : a.1 % 8 = 0
  · rw [if_pos (.inl h0)]; exact (bif_t (decide_eq_true (by omega))).trans rfl
  · by_cases h3 : a.1 % 8 > 3
    · rw [if_pos (.inr h3)]; exact (bif_f (decide_eq_false (by omega))).trans ((bif_t (decide_eq_true h3)).trans rfl)
    · rw [if_neg (by omega)]
      refine (bif_f (decide_eq_false (by omega))).trans ((bif_f (decide_eq_false h3)).trans ?_)
      have hr : a.1 / 8 % 4 = 0 ∨ a.1 / 8 % 4 = 1 ∨ a.1 / 8 % 4 = 2 ∨ a.1 / 8 % 4 = 3 := by omega
      rcases hr with e | e | e | e <;> rw [e] <;> rfl
theorem F14_eq (d n : Int) (h : 0 ≤ n) : F14 (d, n, ()) = [(24, d, 0, 0, IntKind.wrap .i32 n, ()), (0, 0, 0, 0, IntKind.wrap .i32 (n / 4294967296), ())] ∧ G14 (d, n, ()) = true := ofE (E14_eq d n h)
theorem F15_eq (d n : Int) : F15 (d, n, ()) = [(24, d, 0, 0, IntKind.wrap .i32 n, ()), (0, 0, 0, 0, IntKind.wrap .i32 (n / 4294967296), ())] ∧ G15 (d, n, ()) = true := ofE (E15_eq d n)
theorem S5_eq (d n : Int) (a : I) : E5 (d, n, a, ()) = S5 F13 G13 F14 G14 F15 G15 F16 G16 F17 G17 F18 G18 F19 G19 F20 G20 F21 G21 F22 G22 d n a := rfl
theorem E5_eq {d n : Int} {a : I} (hn : 0 ≤ n ∧ n < 18446744073709551616) (ha : WI a) : E5 (d, n, a, ()) = some true := by
  rw [S5_eq]
  unfold S5
  rw [(F14_eq d n hn.1).1, (F14_eq d n hn.1).2, (F15_eq d n).1, (F15_eq d n).2]
  simp only [List.getD_cons_zero, List.getD_cons_succ]
  generalize hx : ((24, d, 0, 0, IntKind.wrap .i32 n, ()) : I) = x
  generalize hy : ((0, 0, 0, 0, IntKind.wrap .i32 (n / 4294967296), ()) : I) = y
  have e16 : ∀ a b, F16 (a, b, ()) = a.2.2.2.2.1 % 4294967296 + b.2.2.2.2.1 % 4294967296 * 4294967296 := fun a b => (ofE (E16_eq a b)).1
  have g16 : ∀ a b, G16 (a, b, ()) = true := fun a b => (ofE (d := 0) (E16_eq a b)).2
  have e22 : ∀ a b, F22 (a, b, ()) = a.2.2.2.2.1 % 4294967296 + b.2.2.2.2.1 % 4294967296 * 4294967296 := fun a b => (ofE (E22_eq a b)).1
  have g22 : ∀ a b, G22 (a, b, ()) = true := fun a b => (ofE (d := 0) (E22_eq a b)).2
  have e17 : ∀ a, F17 (a, ()) = decide (a.1 = 24) := fun a => rfl
  have g17 : ∀ a, G17 (a, ()) = true := fun a => rfl
  have e20 : F20 (a, ()) = szI a := (ofE (E20_eq a ha)).1
  have g20 : G20 (a, ()) = true := (ofE (d := 0) (E20_eq a ha)).2
  have e21 : F21 (a, ()) = szI a := (ofE (E21_eq a ha)).1
  have g21 : G21 (a, ()) = true := (ofE (d := 0) (E21_eq a ha)).2
  rw [show F13 () = true from rfl, show G13 () = true from rfl]
  rw [(F18_eq a).1, (F18_eq a).2, (F19_eq a ha).1, (F19_eq a ha).2, e20, g20, e21, g21]
  simp only [e16, g16, e22, g22, e17, g17]
  subst hx; subst hy
  refine (bif_t (by simp)).trans ((bif_t (decide_eq_true ?_)).trans ((bif_t (decide_eq_true rfl)).trans ((bif_t (by simp)).trans rfl)))
  have w : ∀ x : Int, IntKind.wrap .i32 x % 4294967296 = x % 4294967296 := fun x => by rw [wrap_i32]; split <;> omega
  dsimp only
  rw [w, w]
  omega
end Go.Proofs
