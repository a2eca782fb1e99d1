import Derived.Test.YtnbpakmcibjmaaaI
import Derived.Test.YtnbpakmcibjmaaaGc
namespace Go.Proofs
open Go.GX
set_option linter.unusedVariables false
/-! ## A queue that is none -/
theorem E5_eq (x : Int × KD2) : E5 (x, ()) = some true := by
  show S5 F9 G9 F11 G11 F13 G13 F15 G15 F16 G16 x = _
  unfold S5
  have f13 : F13 () = ([], 1, ()) ∧ G13 () = true := ⟨rfl, rfl⟩
  have f11 : F11 () = ([], 1, ()) ∧ G11 () = true := by
    have h : E11 () = some ([], 1, ()) := by
      show S11 F13 G13 = _
      unfold S11
      rw [f13.1, f13.2]
      rfl
    exact ofE h
  have f9 : F9 (x.2.2.1, x.2.1, ()) = 1 ∧ G9 (x.2.2.1, x.2.1, ()) = true := ⟨rfl, rfl⟩
  have f15 : F15 () = 0 ∧ G15 () = true := ⟨rfl, rfl⟩
  have f16 : F16 () = true ∧ G16 () = true := ⟨rfl, rfl⟩
  rw [f9.1, f9.2, f11.1, f11.2, f13.1, f13.2, f15.1, f15.2, f16.1, f16.2]
  rfl
theorem queueNone_pure (x0 : Int × KD2) (w0 : WFv (.pair (.int .i64) (.pair (.int .i64) (.pair .str .unit))) x0) :
    PureOK Try.prog 5 [⟨.pair (.int .i64) (.pair (.int .i64) (.pair .str .unit)), x0⟩] ⟨.bool, true⟩ := by
  have h : F5 (x0, ()) = true ∧ G5 (x0, ()) = true := ofE (E5_eq x0)
  have := p5 (x0, ()) h.2
  rw [h.1] at this
  exact this
end Go.Proofs
