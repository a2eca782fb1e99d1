import Derived.Test.YtfnjmgjpjjpegaaPC
namespace Go.Proofs
open Go.GX
set_option linter.unusedVariables false
set_option linter.unusedSimpArgs false
theorem swap_eq (a w : Int) (ha : inU a = true) : s16 a w = s17 a w := by
  have ha := inU_iff.1 ha
  have hx : a = ((Wd.x.ev a.toNat : Nat) : Int) := by simp only [Wd.ev]; omega
  have hlt : a.toNat < 2 ^ 64 := by omega
  have c1 : (0 : Int) ≤ 71777214294589695 := by decide
  have c2 : (0 : Int) ≤ 281470681808895 := by decide
  have c3 : (0 : Int) ≤ 255 := by decide
  generalize a.toNat = m at hx hlt
  subst hx
  by_cases h1 : w = 16
  · subst h1
    simp only [s16, s17, S16, S17_16, s23, S23, Option.getD_some, decide_true, decide_false, cond_true, if_true, show IntKind.wrap .i64 (64 - 16) = 48 from rfl, show decide ((0 : Int) ≤ 48) = true from rfl, tt_eq,
      w_and c1, w_and c2, w_and c3, w_shl, w_shr, w_or, w_or0]
    exact congrArg (fun z : Nat => ((z : Int), (0 : Int), ())) (Wd.basis (by decide +kernel) 64 (Nat.le_refl _) m hlt)
  by_cases h2 : w = 32
  · subst h2
    simp only [s16, s17, S16, S17_32, s23, S23, Option.getD_some, decide_true, decide_false, cond_true, if_true, show IntKind.wrap .i64 (64 - 32) = 32 from rfl, show decide ((0 : Int) ≤ 32) = true from rfl, tt_eq,
      show decide ((32 : Int) = 16) = false from rfl, cond_false, show ¬ ((32 : Int) = 16) from by decide, if_false,
      w_and c1, w_and c2, w_and c3, w_shl, w_shr, w_or, w_or0]
    exact congrArg (fun z : Nat => ((z : Int), (0 : Int), ())) (Wd.basis (by decide +kernel) 64 (Nat.le_refl _) m hlt)
  by_cases h3 : w = 64
  · subst h3
    simp only [s16, s17, S16, S17_64, s23, S23, Option.getD_some, decide_true, decide_false, cond_true, if_true, show IntKind.wrap .i64 (64 - 64) = 0 from rfl, show decide ((0 : Int) ≤ 0) = true from rfl, tt_eq,
      show decide ((64 : Int) = 16) = false from rfl, show decide ((64 : Int) = 32) = false from rfl, cond_false, show ¬ ((64 : Int) = 16) from by decide, show ¬ ((64 : Int) = 32) from by decide, if_false,
      w_and c1, w_and c2, w_and c3, w_shl, w_shr, w_or, w_or0]
    exact congrArg (fun z : Nat => ((z : Int), (0 : Int), ())) (Wd.basis (by decide +kernel) 64 (Nat.le_refl _) m hlt)
  simp [s16, s17, S16, h1, h2, h3]
theorem swap_swap (a : Int) (ha : inU a = true) : (s16 (s16 a 64).1 64).1 = a := by
  have ha := inU_iff.1 ha
  have hx : a = ((Wd.x.ev a.toNat : Nat) : Int) := by simp only [Wd.ev]; omega
  have hlt : a.toNat < 2 ^ 64 := by omega
  have c1 : (0 : Int) ≤ 71777214294589695 := by decide
  have c2 : (0 : Int) ≤ 281470681808895 := by decide
  generalize a.toNat = m at hx hlt
  subst hx
  simp only [s16, S16, s23, S23, Option.getD_some, decide_true, decide_false, cond_true, if_true, show IntKind.wrap .i64 (64 - 64) = 0 from rfl, show decide ((0 : Int) ≤ 0) = true from rfl, tt_eq,
      show decide ((64 : Int) = 16) = false from rfl, show decide ((64 : Int) = 32) = false from rfl, cond_false,
      w_and c1, w_and c2, w_shl, w_shr, w_or]
  exact congrArg (fun z : Nat => (z : Int)) (Wd.basis (f := .x) (by decide +kernel) 64 (Nat.le_refl _) m hlt)
end Go.Proofs
