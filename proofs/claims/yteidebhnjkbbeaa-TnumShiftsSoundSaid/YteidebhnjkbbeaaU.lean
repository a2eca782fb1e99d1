import Derived.Test.YteidebhnjkbbeaaS
namespace Go.Proofs
open Go.GX
set_option linter.unusedVariables false
set_option linter.unusedSimpArgs false
def Oob (d : Int) (w : Bool) : Prop := d < 0 ∨ (if w then 64 else 32) ≤ d
theorem wrapd {d : Int} (h0 : 0 ≤ d) (h1 : d < 64) : IntKind.wrap .u64 d = d := by rw [wrap_u64]; omega
theorem shf_eq_t (op : Int) (x : Tn.den) (d : Int) (h1 : InR x.1) (h2 : InR x.2.1) : ∃ r, S26t op x d = some r ∧ S27t Q7a op x d = some r := by
  by_cases hd : d < 0
  · refine ⟨((0, (0, ())), 1, ()), ?_, ?_⟩
    · unfold S26t; rw [decide_eq_true hd]; rfl
    · unfold S27t; rw [decide_eq_true hd]
      cases decide (op = 96) <;> cases decide (op = 112) <;> cases decide (op = 192) <;> rfl
  by_cases hd2 : d ≥ 64
  · refine ⟨((0, (0, ())), 1, ()), ?_, ?_⟩
    · unfold S26t; rw [decide_eq_false hd, decide_eq_true hd2]; rfl
    · unfold S27t; rw [decide_eq_false hd, decide_eq_true (show d > 63 by omega)]
      cases decide (op = 96) <;> cases decide (op = 112) <;> cases decide (op = 192) <;> rfl
  have z : decide (0 ≤ d) = true := decide_eq_true (by omega)
  have hw := wrapd (d := d) (by omega) (by omega)
  unfold S26t S27t
  rw [decide_eq_false hd, decide_eq_false hd2, decide_eq_false (show ¬ d > 63 by omega), hw, show Q7a.nn d = true from z, show Q7a.sh = fSh from rfl, z]
  simp only [tt_eq, Bool.and_self, cond_true, cond_false]
  by_cases o1 : op = 96
  · subst o1
    rw [sh96t _ _ (by omega), sh96t _ _ (by omega), and_all_in (ishl_lt _ _), and_all_in (ishl_lt _ _)]
    exact ⟨_, rfl, rfl⟩
  by_cases o2 : op = 112
  · subst o2
    rw [sh112t _ _ (by omega), sh112t _ _ (by omega), shl0 h1, shl0 h2, shr0, shr0, and_all_in (ishr_in h1), and_all_in (ishr_in h2)]
    exact ⟨_, rfl, rfl⟩
  by_cases o3 : op = 192
  · subst o3
    rw [sh192t _ _ (by omega), sh192t _ _ (by omega), sar0 h1, sar0 h2, and_all_in (inR_wrap _), and_all_in (inR_wrap _)]
    exact ⟨_, rfl, rfl⟩
  rw [decide_eq_false o1, decide_eq_false o2, decide_eq_false o3]
  exact ⟨_, rfl, rfl⟩
theorem shf_eq_f (op : Int) (x : Tn.den) (d : Int) (h1 : InR x.1) (h2 : InR x.2.1) : ∃ r, S26f op x d = some r ∧ S27f Q7a op x d = some r := by
  by_cases hd : d < 0
  · refine ⟨((0, (0, ())), 1, ()), ?_, ?_⟩
    · unfold S26f; rw [decide_eq_true hd]; rfl
    · unfold S27f; rw [decide_eq_true hd]
      cases decide (op = 96) <;> cases decide (op = 112) <;> cases decide (op = 192) <;> rfl
  by_cases hd2 : d ≥ 32
  · refine ⟨((0, (0, ())), 1, ()), ?_, ?_⟩
    · unfold S26f; rw [decide_eq_false hd, decide_eq_true hd2]; rfl
    · unfold S27f; rw [decide_eq_false hd, decide_eq_true (show d > 31 by omega)]
      cases decide (op = 96) <;> cases decide (op = 112) <;> cases decide (op = 192) <;> rfl
  have z : decide (0 ≤ d) = true := decide_eq_true (by omega)
  have hw := wrapd (d := d) (by omega) (by omega)
  unfold S26f S27f
  rw [decide_eq_false hd, decide_eq_false hd2, decide_eq_false (show ¬ d > 31 by omega), hw, show Q7a.nn d = true from z, show Q7a.sh = fSh from rfl, z]
  simp only [tt_eq, Bool.and_self, cond_true, cond_false]
  obtain ⟨k, rfl⟩ : ∃ k : Nat, d = k := ⟨d.toNat, by omega⟩
  by_cases o1 : op = 96
  · subst o1
    rw [sh96f _ _ (by omega), sh96f _ _ (by omega), shl_lo x.1 k (by omega), shl_lo x.2.1 k (by omega)]
    exact ⟨_, rfl, rfl⟩
  by_cases o2 : op = 112
  · subst o2
    rw [sh112f _ _ (by omega), sh112f _ _ (by omega), lo_shr, lo_shr, and_lo x.1, and_lo x.2.1]
    exact ⟨_, rfl, rfl⟩
  by_cases o3 : op = 192
  · subst o3
    rw [sh192f _ _ (by omega), sh192f _ _ (by omega), sar32', sar32', and_lo x.1, and_lo x.2.1, wrap_i32_lo, wrap_i32_lo, i64i32, i64i32]
    exact ⟨_, rfl, rfl⟩
  rw [decide_eq_false o1, decide_eq_false o2, decide_eq_false o3]
  exact ⟨_, rfl, rfl⟩
end Go.Proofs
