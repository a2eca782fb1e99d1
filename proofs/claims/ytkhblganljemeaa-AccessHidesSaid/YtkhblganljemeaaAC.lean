import Derived.Test.YtkhblganljemeaaA
namespace Go.Proofs
open Go.GX
set_option linter.unusedVariables false
set_option maxRecDepth 100000
/-! ## So many bytes that nobody knows -/
noncomputable def byV (n : Int) : Int := bif decide (n = 1) then 255 else bif decide (n = 2) then 65535 else bif decide (n = 4) then 4294967295 else 18446744073709551615
noncomputable def byR (n : Int) : Ty.den (.pair (.int .i64) (.pair (.pair (.pair (.int .u64) (.pair (.int .u64) .unit)) (.pair (.int .u64) (.pair (.int .u64) .unit))) (.pair (.int .i64) (.pair (.int .i64) (.pair (.int .i64) .unit))))) := (1, (((0, (byV n, ())), (0, (byV n, ()))), (0, (0, (0, ())))))
noncomputable def byG (n : Int) : Bool := decide (n = 1) || (decide (n = 2) || (decide (n = 4) || decide (n = 8)))
noncomputable def F25 : (Int × Unit) → Ty.den (.pair (.int .i64) (.pair (.pair (.pair (.int .u64) (.pair (.int .u64) .unit)) (.pair (.int .u64) (.pair (.int .u64) .unit))) (.pair (.int .i64) (.pair (.int .i64) (.pair (.int .i64) .unit))))) := fun x => byR x.1
noncomputable def G25 : (Int × Unit) → Bool := fun x => byG x.1
theorem t25_1 : fnT C_1 Try.f25 (.pair (.int .i64) (.pair (.pair (.pair (.int .u64) (.pair (.int .u64) .unit)) (.pair (.int .u64) (.pair (.int .u64) .unit))) (.pair (.int .i64) (.pair (.int .i64) (.pair (.int .i64) .unit))))) [⟨.int .i64, 1⟩] = some (byR 1) := by kernel_rfl
theorem t25_2 : fnT C_1 Try.f25 (.pair (.int .i64) (.pair (.pair (.pair (.int .u64) (.pair (.int .u64) .unit)) (.pair (.int .u64) (.pair (.int .u64) .unit))) (.pair (.int .i64) (.pair (.int .i64) (.pair (.int .i64) .unit))))) [⟨.int .i64, 2⟩] = some (byR 2) := by kernel_rfl
theorem t25_4 : fnT C_1 Try.f25 (.pair (.int .i64) (.pair (.pair (.pair (.int .u64) (.pair (.int .u64) .unit)) (.pair (.int .u64) (.pair (.int .u64) .unit))) (.pair (.int .i64) (.pair (.int .i64) (.pair (.int .i64) .unit))))) [⟨.int .i64, 4⟩] = some (byR 4) := by kernel_rfl
theorem t25_8 : fnT C_1 Try.f25 (.pair (.int .i64) (.pair (.pair (.pair (.int .u64) (.pair (.int .u64) .unit)) (.pair (.int .u64) (.pair (.int .u64) .unit))) (.pair (.int .i64) (.pair (.int .i64) (.pair (.int .i64) .unit))))) [⟨.int .i64, 8⟩] = some (byR 8) := by kernel_rfl
theorem p25 : ∀ x, G25 x = true → PureOK Try.prog 25 (mkA [.int .i64] x) ⟨(.pair (.int .i64) (.pair (.pair (.pair (.int .u64) (.pair (.int .u64) .unit)) (.pair (.int .u64) (.pair (.int .u64) .unit))) (.pair (.int .i64) (.pair (.int .i64) (.pair (.int .i64) .unit))))), F25 x⟩ := by
  rintro ⟨n, u⟩ h
  have h : n = 1 ∨ n = 2 ∨ n = 4 ∨ n = 8 := by
    have h : byG n = true := h
    unfold byG at h
    simpa using h
  show PureOK Try.prog 25 [⟨.int .i64, n⟩] ⟨(.pair (.int .i64) (.pair (.pair (.pair (.int .u64) (.pair (.int .u64) .unit)) (.pair (.int .u64) (.pair (.int .u64) .unit))) (.pair (.int .i64) (.pair (.int .i64) (.pair (.int .i64) .unit))))), byR n⟩
  rcases h with rfl | rfl | rfl | rfl
  · exact fnT_ok C_1OK Try.func25 (fun c _ => LOK.none rfl 0 c) t25_1
  · exact fnT_ok C_1OK Try.func25 (fun c _ => LOK.none rfl 0 c) t25_2
  · exact fnT_ok C_1OK Try.func25 (fun c _ => LOK.none rfl 0 c) t25_4
  · exact fnT_ok C_1OK Try.func25 (fun c _ => LOK.none rfl 0 c) t25_8
noncomputable def F27 : (Int × Unit) → Ty.den (.pair (.int .i64) (.pair (.pair (.pair (.int .u64) (.pair (.int .u64) .unit)) (.pair (.int .u64) (.pair (.int .u64) .unit))) (.pair (.int .i64) (.pair (.int .i64) (.pair (.int .i64) .unit))))) := fun x => byR x.1
noncomputable def G27 : (Int × Unit) → Bool := fun x => byG x.1
theorem t27_1 : fnT C_1 Try.f27 (.pair (.int .i64) (.pair (.pair (.pair (.int .u64) (.pair (.int .u64) .unit)) (.pair (.int .u64) (.pair (.int .u64) .unit))) (.pair (.int .i64) (.pair (.int .i64) (.pair (.int .i64) .unit))))) [⟨.int .i64, 1⟩] = some (byR 1) := by kernel_rfl
theorem t27_2 : fnT C_1 Try.f27 (.pair (.int .i64) (.pair (.pair (.pair (.int .u64) (.pair (.int .u64) .unit)) (.pair (.int .u64) (.pair (.int .u64) .unit))) (.pair (.int .i64) (.pair (.int .i64) (.pair (.int .i64) .unit))))) [⟨.int .i64, 2⟩] = some (byR 2) := by kernel_rfl
theorem t27_4 : fnT C_1 Try.f27 (.pair (.int .i64) (.pair (.pair (.pair (.int .u64) (.pair (.int .u64) .unit)) (.pair (.int .u64) (.pair (.int .u64) .unit))) (.pair (.int .i64) (.pair (.int .i64) (.pair (.int .i64) .unit))))) [⟨.int .i64, 4⟩] = some (byR 4) := by kernel_rfl
theorem t27_8 : fnT C_1 Try.f27 (.pair (.int .i64) (.pair (.pair (.pair (.int .u64) (.pair (.int .u64) .unit)) (.pair (.int .u64) (.pair (.int .u64) .unit))) (.pair (.int .i64) (.pair (.int .i64) (.pair (.int .i64) .unit))))) [⟨.int .i64, 8⟩] = some (byR 8) := by kernel_rfl
theorem p27 : ∀ x, G27 x = true → PureOK Try.prog 27 (mkA [.int .i64] x) ⟨(.pair (.int .i64) (.pair (.pair (.pair (.int .u64) (.pair (.int .u64) .unit)) (.pair (.int .u64) (.pair (.int .u64) .unit))) (.pair (.int .i64) (.pair (.int .i64) (.pair (.int .i64) .unit))))), F27 x⟩ := by
  rintro ⟨n, u⟩ h
  have h : n = 1 ∨ n = 2 ∨ n = 4 ∨ n = 8 := by
    have h : byG n = true := h
    unfold byG at h
    simpa using h
  show PureOK Try.prog 27 [⟨.int .i64, n⟩] ⟨(.pair (.int .i64) (.pair (.pair (.pair (.int .u64) (.pair (.int .u64) .unit)) (.pair (.int .u64) (.pair (.int .u64) .unit))) (.pair (.int .i64) (.pair (.int .i64) (.pair (.int .i64) .unit))))), byR n⟩
  rcases h with rfl | rfl | rfl | rfl
  · exact fnT_ok C_1OK Try.func27 (fun c _ => LOK.none rfl 0 c) t27_1
  · exact fnT_ok C_1OK Try.func27 (fun c _ => LOK.none rfl 0 c) t27_2
  · exact fnT_ok C_1OK Try.func27 (fun c _ => LOK.none rfl 0 c) t27_4
  · exact fnT_ok C_1OK Try.func27 (fun c _ => LOK.none rfl 0 c) t27_8
end Go.Proofs
