import Derived.Test.YteidebhnjkbbeaaZF
namespace Go.Proofs
open Go.GX
set_option linter.unusedVariables false
set_option linter.unusedSimpArgs false
theorem l8_true (op : Int) (x : Tn.den) (n : List Int) (hx : InR x.2.1) (hn : ∀ i, InR (n.getD i 0)) : SL8 Q8 op x n = some true := by
  obtain ⟨k, hk⟩ : ∃ k : Nat, IntKind.wrap .i64 (Int.tmod (n.getD 0 0) 70) = (k : Int) := by
    have := hn 0
    refine ⟨(n.getD 0 0 % 70).toNat, ?_⟩
    rw [tmod_pos this.1, wrap_i64, if_neg (by omega)]; omega
  have hk2 : IntKind.wrap .u64 (k : Int) = (k : Int) := by
    have h0 := hn 0
    rw [tmod_pos h0.1, wrap_i64, if_neg (by omega)] at hk
    rw [wrap_u64]; omega
  have a1 : InR (fMay x).1 := inR_iandn _ _
  have a2 : InR (fMay x).2.1 := hx
  have az : InR (fOne (fMay x) (n.getD 1 0)) := inR_ior _ _
  have hb : ∀ i, bit (fMay x).2.1 i = true ∨ bit (fOne (fMay x) (n.getD 1 0)) i = bit (fMay x).1 i := by
    intro i
    unfold fOne fMay
    simp only [bit_ior, bit_iand, bit_iandn]
    cases bit x.1 i <;> cases bit x.2.1 i <;> cases bit (n.getD 1 0) i <;> simp
  have c8 := has_and (m := 255) hb
  have c32 := has_and (m := 4294967295) hb
  unfold SL8
  rw [show Q8.may = fMay from rfl, show Q8.one = fOne from rfl, show Q8.has = fHas from rfl, show Q8.cast = fCast from rfl, show Q8.shf = fShf from rfl, show Q8.abin = fAb from rfl, show Q8.ao = aoK from rfl, hk, hk2, cast8, cast32, c8, c32]
  have H := fun w h => has_shift op (fMay x) (fOne (fMay x) (n.getD 1 0)) k w a1 a2 az hb h
  by_cases c1 : (fShf op (fMay x) (k : Int) true).2.1 = 0
  · obtain ⟨p1, p2, p3⟩ := H true c1
    rw [decide_eq_true c1, p1, decide_eq_true p2, p3]
    by_cases c2 : (fShf op (fMay x) (k : Int) false).2.1 = 0
    · obtain ⟨q1, q2, q3⟩ := H false c2
      rw [decide_eq_true c2, q1, decide_eq_true q2]
      simp [tt_eq]
    · rw [decide_eq_false c2]; simp [tt_eq]
  · rw [decide_eq_false c1]
    by_cases c2 : (fShf op (fMay x) (k : Int) false).2.1 = 0
    · obtain ⟨q1, q2, q3⟩ := H false c2
      rw [decide_eq_true c2, q1, decide_eq_true q2, q3]
      simp [tt_eq]
    · rw [decide_eq_false c2]; simp [tt_eq]
theorem tnumShiftsSound_pure (op : Int) (_ : WF (.int .i64) op) (x : Tn.den) (hx : WF Tn x) (n : List Int) (hn : WF (.arr 2 (.int .u64)) n) : PureOK Try.prog 8 [vI op, vT x, ⟨.arr 2 (.int .u64), n⟩] ⟨.bool, true⟩ := by
  have hn' : ∀ i, InR (n.getD i 0) := by
    intro i
    by_cases hi : i < n.length
    · have : n.getD i 0 ∈ n := by simp [List.getD, List.getElem?_eq_getElem hi]
      exact wf_u64 (hn.2 _ this)
    · simp [List.getD, List.getElem?_eq_none (Nat.le_of_not_lt hi)]; exact inR0
  exact fnT_pure Try.tabOK K8_ok mix Try.func8 (lf := 100) ((tL8 Q8 op x n).trans (l8_true op x n (wf_u64 hx.2.1) hn'))
end Go.Proofs
