import Derived.Test.YteidebhnjkbbeaaZD
namespace Go.Proofs
open Go.GX
set_option linter.unusedVariables false
set_option linter.unusedSimpArgs false
theorem shf_ok (op : Int) (t : Tn.den) (k : Nat) (w : Bool) (h1 : InR t.1) (h2 : InR t.2.1) (h : (fShf op t (k : Int) w).2.1 = 0) :
    (op = 96 ∨ op = 112 ∨ op = 192) ∧ k < (if w then 64 else 32) ∧ fShf op t (k : Int) w = ((fSh op t.1 (k : Int) w, fSh op t.2.1 (k : Int) w, ()), 0, ()) := by
  have hk0 : ¬ ((k : Int) < 0) := by omega
  have z0 : Q7a.nn (IntKind.wrap .u64 (k : Int)) = true := nn_wrap _
  rw [shf_same op t _ w h1 h2] at h ⊢
  unfold fRShf at h ⊢
  cases w
  · rw [cond_false] at h ⊢
    unfold S27f at h ⊢
    rw [z0, tt_eq, decide_eq_false hk0] at h ⊢
    by_cases c : (k : Int) > 31
    · exfalso
      rw [decide_eq_true c] at h
      revert h
      cases decide (op = 96) <;> cases decide (op = 112) <;> cases decide (op = 192) <;> simp
    · rw [decide_eq_false c] at h ⊢
      rw [wrapd (by omega) (by omega), show Q7a.sh = fSh from rfl] at h ⊢
      by_cases o1 : op = 96
      · subst o1; exact ⟨.inl rfl, by show k < 32; omega, rfl⟩
      by_cases o2 : op = 112
      · subst o2; exact ⟨.inr (.inl rfl), by show k < 32; omega, rfl⟩
      by_cases o3 : op = 192
      · subst o3; exact ⟨.inr (.inr rfl), by show k < 32; omega, rfl⟩
      exfalso
      rw [decide_eq_false o1, decide_eq_false o2, decide_eq_false o3] at h
      revert h; simp
  · rw [cond_true] at h ⊢
    unfold S27t at h ⊢
    rw [z0, tt_eq, decide_eq_false hk0] at h ⊢
    by_cases c : (k : Int) > 63
    · exfalso
      rw [decide_eq_true c] at h
      revert h
      cases decide (op = 96) <;> cases decide (op = 112) <;> cases decide (op = 192) <;> simp
    · rw [decide_eq_false c] at h ⊢
      rw [wrapd (by omega) (by omega), show Q7a.sh = fSh from rfl] at h ⊢
      by_cases o1 : op = 96
      · subst o1; exact ⟨.inl rfl, by show k < 64; omega, rfl⟩
      by_cases o2 : op = 112
      · subst o2; exact ⟨.inr (.inl rfl), by show k < 64; omega, rfl⟩
      by_cases o3 : op = 192
      · subst o3; exact ⟨.inr (.inr rfl), by show k < 64; omega, rfl⟩
      exfalso
      rw [decide_eq_false o1, decide_eq_false o2, decide_eq_false o3] at h
      revert h; simp
end Go.Proofs
