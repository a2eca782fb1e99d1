import Derived.Test.YteidebhnjkbbeaaKb
import Derived.Test.YteidebhnjkbbeaaGc
namespace Go.Proofs
open Go.GX
set_option linter.unusedVariables false
theorem RT_of {t : Tn} (h : WFv (.pair (.int .u64) (.pair (.int .u64) .unit)) t) : RT t := ⟨wf_u64 h.1, wf_u64 h.2.1⟩
theorem tnumBins_pure (x0 : Int) (w0 : WFv (.int .i64) x0) (x1 : Tn) (w1 : WFv (.pair (.int .u64) (.pair (.int .u64) .unit)) x1) (x2 : Tn) (w2 : WFv (.pair (.int .u64) (.pair (.int .u64) .unit)) x2) :
    PureOK Try.prog 3 [⟨.int .i64, x0⟩, ⟨.pair (.int .u64) (.pair (.int .u64) .unit), x1⟩, ⟨.pair (.int .u64) (.pair (.int .u64) .unit), x2⟩] ⟨.bool, true⟩ := by
  have h : F3 (x0, x1, x2, ()) = true ∧ G3 (x0, x1, x2, ()) = true := ofE (E3_eq x0 (RT_of w1) (RT_of w2))
  have := p3 (x0, x1, x2, ()) h.2
  rw [h.1] at this
  exact this
end Go.Proofs
