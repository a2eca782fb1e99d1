import Derived.Test.YtfhpihomdnbgpaaIP
namespace Go.Proofs.Po
open Go.GX
set_option linter.unusedVariables false
noncomputable def F9 : (KD6 × List (Int × KD1) × Int × Unit) → (KD6 × (Int × Unit)) := fun x => if x.2.2.1 = 131 then F9g x else Pl.F9 x
noncomputable def G9 : (KD6 × List (Int × KD1) × Int × Unit) → Bool := fun x => if x.2.2.1 = 131 then G9g x else Pl.G9 x
theorem p9 : ∀ x, G9 x = true → PureOK Try.prog 9 (mkA [KT17, .vsl KT21, .int .i64] x) ⟨.tup KT17 (.tup (.int .i64) .tnil), F9 x⟩ := by
 intro x h
 unfold G9 at h
 unfold F9
 by_cases e : x.2.2.1 = 131
 ·rw [if_pos e] at h ⊢
  exact p9g x h
 ·rw [if_neg e] at h ⊢
  exact Pl.p9 x h
end Go.Proofs.Po
