import Derived.Test.YtflbecfhnpdogaaI
import Derived.Test.YtflbecfhnpdogaaGd
namespace Go.Proofs
open Go.GX
set_option linter.unusedVariables false
/-! ## A ring that is none -/
theorem E5_eq (x : Int × (Int × KD4)) : E5 (x, ()) = some true := by
  show S5 F7n G7n F8 G8 F9 G9 F11 G11 F12 G12 F13 G13 F15 G15 F16 G16 F17 G17 x = _
  unfold S5
  have f13 : ∀ y, F13 y = (0, 1, ()) ∧ G13 y = true := fun y => ⟨rfl, rfl⟩
  have f21 : ∀ y, F21 y = 1 ∧ G21 y = true := fun y => ⟨rfl, rfl⟩
  have f7 : ∀ y, F7n y = (1, ()) ∧ G7n y = true := fun y => ⟨rfl, rfl⟩
  have f15 : ∀ y, F15 y = 1 ∧ G15 y = true := fun y => ofE (by
    show S15 F21 G21 y.1 = _
    unfold S15
    rw [(f21 _).1, (f21 _).2]
    rfl)
  have f16 : ∀ y, F16 y = 1 ∧ G16 y = true := fun y => ofE (by
    show S16 F21 G21 y.1 = _
    unfold S16
    rw [(f21 _).1, (f21 _).2]
    rfl)
  have f8 : ∀ y, F8 y = 1 ∧ G8 y = true := fun y => ofE (by
    show S8 F13 G13 y.1 = _
    unfold S8
    rw [(f13 _).1, (f13 _).2]
    rfl)
  have f11 : F11 () = [] ∧ G11 () = true := ⟨rfl, rfl⟩
  have f9 : F9 () = 0 ∧ G9 () = true := ⟨rfl, rfl⟩
  have f17 : F17 () = 1 ∧ G17 () = true := ⟨rfl, rfl⟩
  have f12 : F12 () = true ∧ G12 () = true := ⟨rfl, rfl⟩
  rw [(f13 _).1, (f13 _).2, (f7 _).1, (f7 _).2, (f15 _).1, (f15 _).2, (f16 _).1, (f16 _).2, (f8 _).1, (f8 _).2, f11.1, f11.2, f9.1, f9.2, f17.1, f17.2, f12.1, f12.2]
  rfl
theorem ringNone_pure (x0 : Int × (Int × KD4)) (w0 : WFv (.pair (.int .i64) (.pair (.int .i64) (.pair (.int .i64) (.pair .str .unit)))) x0) :
    PureOK Try.prog 5 [⟨.pair (.int .i64) (.pair (.int .i64) (.pair (.int .i64) (.pair .str .unit))), x0⟩] ⟨.bool, true⟩ := by
  have h : F5 (x0, ()) = true ∧ G5 (x0, ()) = true := ofE (E5_eq x0)
  have := p5 (x0, ()) h.2
  rw [h.1] at this
  exact this
end Go.Proofs
