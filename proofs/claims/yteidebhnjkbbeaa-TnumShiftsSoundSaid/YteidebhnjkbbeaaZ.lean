import Derived.Test.YteidebhnjkbbeaaYB
namespace Go.Proofs
open Go.GX
set_option linter.unusedVariables false
set_option linter.unusedSimpArgs false
def fAb (op : Int) (w : Bool) (a b : Int) : UE.den :=
  (if op = 96 then (bif w then S14_96t a b else S14_96f a b) else if op = 112 then (bif w then S14_112t a b else S14_112f a b) else (bif w then S14_192t a b else S14_192f a b)).getD (0, 0, ())
def aoK (op a b : Int) : Bool := decide (op = 96) || (decide (op = 112) || decide (op = 192))
def Q8 : Sp8 := ⟨fMay, fOne, fHas, fCast, fShf, fAb, aoK⟩
theorem nn_and (a b : Int) : decide (0 ≤ iand .u64 a b) = true := decide_eq_true (inR_iand a b).1
theorem p14' (op : Int) (w : Bool) (a b : Int) (h : aoK op a b = true) : PureOK Try.prog 14 [vI op, vB w, vB false, vU a, vU b] ⟨UE, fAb op w a b⟩ := by
  refine fnT_pure Try.tabOK K0_ok mix Try.func14 (lf := 100) ?_
  have h : op = 96 ∨ op = 112 ∨ op = 192 := by simpa [aoK] using h
  rcases h with rfl | rfl | rfl
  · cases w
    · refine (t14_96f a b).trans ?_; unfold fAb S14_96f; rw [nn_and, tt_eq]; rfl
    · refine (t14_96t a b).trans ?_; unfold fAb S14_96t; rw [nn_and, tt_eq]; rfl
  · cases w
    · refine (t14_112f a b).trans ?_; unfold fAb S14_112f; rw [nn_and, tt_eq]; rfl
    · refine (t14_112t a b).trans ?_; unfold fAb S14_112t; rw [nn_and, tt_eq]; rfl
  · cases w
    · refine (t14_192f a b).trans ?_; unfold fAb S14_192f; rw [nn_and, tt_eq]; rfl
    · refine (t14_192t a b).trans ?_; unfold fAb S14_192t; rw [nn_and, tt_eq]; rfl
theorem p14 : ∀ args v, G_14 fAb aoK args = some (v, true) → PureOK Try.prog 14 args v := by
  intro args v h; unfold G_14 at h; split at h
  · simp only [Option.some.injEq, Prod.mk.injEq] at h
    obtain ⟨rfl, h⟩ := h
    exact p14' _ _ _ _ h
  · cases h
theorem K8_ok : KOK Try.prog (K8 Q8) := KX_ok Try.tabOK Try.FOK
  (KOK.cons Try.call12 (.pS p12) (KOK.cons Try.call9 (.pS p9) (KOK.cons Try.call13 (.pS p13) (KOK.cons Try.call15 (.pS p15) (KOK.cons Try.call26 (.pS p26) (KOK.cons Try.call28 (.pS p28) (KOK.cons Try.call14 (SmOK.pSb p14) KOK.nil))))))) mix 10
end Go.Proofs
