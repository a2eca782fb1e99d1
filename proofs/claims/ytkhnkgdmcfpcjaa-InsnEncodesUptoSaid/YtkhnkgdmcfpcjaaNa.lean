import Derived.Test.YtkhnkgdmcfpcjaaMf
import Derived.Test.YtkhnkgdmcfpcjaaGc
namespace Go.Proofs
open Go.GX
set_option linter.unusedVariables false
theorem i64_of {a : Int} (h : (Lit.int .i64 a).wf = true) : i64 a := wf_i64 h
theorem WI_of {a : I} (h : WFv (.pair (.int .i64) (.pair (.int .i64) (.pair (.int .i64) (.pair (.int .i64) (.pair (.int .i64) .unit))))) a) : WI a :=
  ⟨wf_i64 h.1, wf_i64 h.2.1, wf_i64 h.2.2.1, wf_i64 h.2.2.2.1, wf_i64 h.2.2.2.2.1⟩
theorem WL_of {l : List I} (h : WFv (.vsl (.pair (.int .i64) (.pair (.int .i64) (.pair (.int .i64) (.pair (.int .i64) (.pair (.int .i64) .unit)))))) l) (hl : l.length ≤ 1048576) : WL l :=
  ⟨by omega, fun a ha => WI_of (h.2 a ha)⟩
theorem insnEncodes_pure (x0 : List I) (w0 : WFv (.vsl (.pair (.int .i64) (.pair (.int .i64) (.pair (.int .i64) (.pair (.int .i64) (.pair (.int .i64) .unit)))))) x0) (s0 : SZ 1048576 (.vsl (.pair (.int .i64) (.pair (.int .i64) (.pair (.int .i64) (.pair (.int .i64) (.pair (.int .i64) .unit)))))) x0)
    (x1 : List UInt8) (w1 : WFv .str x1) (s1 : SZ 1048576 .str x1) : PureOK Try.prog 3 [⟨.vsl (.pair (.int .i64) (.pair (.int .i64) (.pair (.int .i64) (.pair (.int .i64) (.pair (.int .i64) .unit))))), x0⟩, ⟨.str, x1⟩] ⟨.bool, true⟩ := by
  have h : F3 (x0, x1, ()) = true ∧ G3 (x0, x1, ()) = true := ofE (E3_eq (WL_of w0 s0.1) (Nat.le_trans s1 (by omega)))
  have := p3 (x0, x1, ()) h.2
  rw [h.1] at this
  exact this
theorem insnBack_pure (x0 : List I) (w0 : WFv (.vsl (.pair (.int .i64) (.pair (.int .i64) (.pair (.int .i64) (.pair (.int .i64) (.pair (.int .i64) .unit)))))) x0) (s0 : SZ 1048576 (.vsl (.pair (.int .i64) (.pair (.int .i64) (.pair (.int .i64) (.pair (.int .i64) (.pair (.int .i64) .unit)))))) x0)
    (x1 : List UInt8) (w1 : WFv .str x1) (s1 : SZ 1048576 .str x1) : PureOK Try.prog 4 [⟨.vsl (.pair (.int .i64) (.pair (.int .i64) (.pair (.int .i64) (.pair (.int .i64) (.pair (.int .i64) .unit))))), x0⟩, ⟨.str, x1⟩] ⟨.bool, true⟩ := by
  have h : F4 (x0, x1, ()) = true ∧ G4 (x0, x1, ()) = true := ofE (E4_eq (WL_of w0 s0.1) s0.1 (Nat.le_trans s1 (by omega)))
  have := p4 (x0, x1, ()) h.2
  rw [h.1] at this
  exact this
theorem insnWides_pure (x0 : Int) (w0 : WFv (.int .i64) x0) (x1 : Int) (w1 : WFv (.int .u64) x1) (x2 : I) (w2 : WFv (.pair (.int .i64) (.pair (.int .i64) (.pair (.int .i64) (.pair (.int .i64) (.pair (.int .i64) .unit))))) x2) :
    PureOK Try.prog 5 [⟨.int .i64, x0⟩, ⟨.int .u64, x1⟩, ⟨.pair (.int .i64) (.pair (.int .i64) (.pair (.int .i64) (.pair (.int .i64) (.pair (.int .i64) .unit)))), x2⟩] ⟨.bool, true⟩ := by
  have h : F5 (x0, x1, x2, ()) = true ∧ G5 (x0, x1, x2, ()) = true := ofE (E5_eq (wf_u64 w1) (WI_of w2))
  have := p5 (x0, x1, x2, ()) h.2
  rw [h.1] at this
  exact this
theorem insnPieces_pure (x0 : List I) (w0 : WFv (.vsl (.pair (.int .i64) (.pair (.int .i64) (.pair (.int .i64) (.pair (.int .i64) (.pair (.int .i64) .unit)))))) x0) (s0 : SZ 1048576 (.vsl (.pair (.int .i64) (.pair (.int .i64) (.pair (.int .i64) (.pair (.int .i64) (.pair (.int .i64) .unit)))))) x0)
    (x1 : List I) (w1 : WFv (.vsl (.pair (.int .i64) (.pair (.int .i64) (.pair (.int .i64) (.pair (.int .i64) (.pair (.int .i64) .unit)))))) x1) (s1 : SZ 1048576 (.vsl (.pair (.int .i64) (.pair (.int .i64) (.pair (.int .i64) (.pair (.int .i64) (.pair (.int .i64) .unit)))))) x1) :
    PureOK Try.prog 6 [⟨.vsl (.pair (.int .i64) (.pair (.int .i64) (.pair (.int .i64) (.pair (.int .i64) (.pair (.int .i64) .unit))))), x0⟩, ⟨.vsl (.pair (.int .i64) (.pair (.int .i64) (.pair (.int .i64) (.pair (.int .i64) (.pair (.int .i64) .unit))))), x1⟩] ⟨.bool, true⟩ := by
  have h : F6 (x0, x1, ()) = true ∧ G6 (x0, x1, ()) = true := ofE (E6_eq (WL_of w0 s0.1) (WL_of w1 s1.1) s0.1 s1.1)
  have := p6 (x0, x1, ()) h.2
  rw [h.1] at this
  exact this
theorem insnFields_pure (x0 : I) (w0 : WFv (.pair (.int .i64) (.pair (.int .i64) (.pair (.int .i64) (.pair (.int .i64) (.pair (.int .i64) .unit))))) x0) (x1 : Int) (w1 : WFv (.int .i64) x1) (x2 : Int) (w2 : WFv (.int .i64) x2) :
    PureOK Try.prog 7 [⟨.pair (.int .i64) (.pair (.int .i64) (.pair (.int .i64) (.pair (.int .i64) (.pair (.int .i64) .unit)))), x0⟩, ⟨.int .i64, x1⟩, ⟨.int .i64, x2⟩] ⟨.bool, true⟩ := by
  have h : F7 (x0, x1, x2, ()) = true ∧ G7 (x0, x1, x2, ()) = true := ofE (E7_eq (WI_of w0) (wf_i64 w1) (wf_i64 w2))
  have := p7 (x0, x1, x2, ()) h.2
  rw [h.1] at this
  exact this
end Go.Proofs
