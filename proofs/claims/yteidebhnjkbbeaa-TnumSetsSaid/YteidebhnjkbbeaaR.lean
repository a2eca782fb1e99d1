import Derived.Test.YteidebhnjkbbeaaO
namespace Go.Proofs
open Go.GX
set_option linter.unusedVariables false
set_option linter.unusedSimpArgs false
theorem wfU {a : Int} (h : WF (.int .u64) a) : InR a := wf_u64 h
theorem inR_arr {n : Nat} {l : List Int} (h : WF (.arr n (.int .u64)) l) (i : Nat) : InR (l.getD i 0) := by
  by_cases hi : i < l.length
  · have : l.getD i 0 ∈ l := by simp [List.getD, List.getElem?_eq_getElem hi]
    exact wfU (h.2 _ this)
  · simp [List.getD, List.getElem?_eq_none (Nat.le_of_not_lt hi)]; exact inR0
theorem inU_ite {c : Prop} [Decidable c] {a b : Int} (ha : inU a = true) (hb : inU b = true) : inU (if c then a else b) = true := by split <;> assumption
theorem l5_true (x y : Tn.den) (n : List Int) (hx : InR x.2.1) (hn : ∀ i, InR (n.getD i 0)) : SL5 Q5 x y n = some true := by
  have i0 := inU_iff.2 (hn 0)
  have i1 := inU_iff.2 (hn 1)
  have hin := in_eq (fMay x) (fMay y) hx
  simp only [SL5, show Q5.may = fMay from rfl, show Q5.has = fHas from rfl, show Q5.rhas = fRHas from rfl, show Q5.meet = fMeet from rfl, show Q5.rmeet = fRMeet from rfl, show Q5.isin = fIn from rfl, show Q5.risin = fRIn from rfl,
    show Q5.join = fJoin from rfl, show Q5.rjoin = fJoin from rfl, show Q5.off = fOf from rfl, show Q5.rof = fROf from rfl, show Q5.iu = inU from rfl,
    has_eq, hin, meet_eq, ← of_eq, inU_ite i1 i0, inU_ite i0 i1, i0, i1, tt_eq, decide_true, beq_self_eq_true, Bool.not_true, Bool.and_self, cond_true, cond_false]
theorem tnumSets_pure (x : Tn.den) (hx : WF Tn x) (y : Tn.den) (hy : WF Tn y) (n : List Int) (hn : WF (.arr 2 (.int .u64)) n) : PureOK Try.prog 5 [vT x, vT y, ⟨.arr 2 (.int .u64), n⟩] ⟨.bool, true⟩ :=
  fnT_pure Try.tabOK K5_ok mix Try.func5 (lf := 100) ((tL5 Q5 x y n).trans (l5_true x y n (wfU hx.2.1) (inR_arr hn)))
end Go.Proofs
