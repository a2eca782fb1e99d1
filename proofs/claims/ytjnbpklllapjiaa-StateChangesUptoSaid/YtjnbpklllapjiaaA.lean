import Derived.Test.YtjnbpklllapjiaaT
import Derived.Test.YtjnbpklllapjiaaTK
import Derived.Test.YtjnbpklllapjiaaGe
namespace Go.Proofs
open Go.GX
set_option linter.unusedVariables false
/-! ## slices.Clone -/
noncomputable def F36 : (List Int × Unit) → List Int := fun x => x.1
noncomputable def C36 : Cx := CxL Try.Θl (kOf []) (lOf [])
theorem CxOK36 : CxOK Try.prog C36 := ⟨Try.tabOKl, KOK.nil, by kernel_rfl, POK.none⟩
noncomputable def E36 : (List Int × Unit) → Option (List Int) := fun x => codeT C36 (clTail Try.f36.body) ⟨putArgs [⟨.vsl (.int .i64), x.1⟩] 0 .lf, 8, [], 0, true⟩ (endK C36.Θ Try.f36 (.vsl (.int .i64)))
noncomputable def S36 (a0 : List Int) : Option (List Int) :=
  (bif (((tt 3 (decide (((0 + (0 + a0.length)) : Nat) ≤ (0 + a0.length)))) && (tt 1 (decide (((0 + (0 + a0.length)) : Nat) ≤ (0 + a0.length))))) && (tt 2 (decide ((0 + a0.length) * 8 ≤ 140737488355328)))) then some (sec 0 a0 0 (0 + a0.length)) else none)
theorem t36 (l : List Int) : E36 (l, ()) = S36 l := by kernel_rfl
theorem E36_eq {l : List Int} (h : l.length * 8 ≤ 140737488355328) : E36 (l, ()) = some l := by
  rw [t36]
  unfold S36
  have e : sec 0 l 0 (0 + l.length) = l := sec_full (by omega)
  rw [e, decide_eq_true (show (0 + l.length) * 8 ≤ 140737488355328 by omega), decide_eq_true (show 0 + (0 + l.length) ≤ 0 + l.length by omega)]
  rfl
noncomputable def G36 : (List Int × Unit) → Bool := fun x => decide (x.1.length * 8 ≤ 140737488355328)
theorem n36t : fnT C36 Try.f36 (.vsl (.int .i64)) [⟨.slice, none⟩] = some ([] : List Int) := by kernel_rfl
theorem LOK36 : LOK Try.prog C36 0 (bodyF Try.f36) := Lall.LOK rfl (by kernel_rfl) trivial
theorem LOK36t : LOK Try.prog C36 0 (clTail Try.f36.body) := Lall.LOK rfl (by kernel_rfl) trivial
theorem n36 : PureOK Try.prog 36 [⟨.slice, none⟩] ⟨.vsl (.int .i64), []⟩ := PureOK.of1 (T := .vsl (.int .i64)) CxOK36 Try.func36 (LOK.fn LOK36) n36t rfl
theorem p36 : ∀ x, G36 x = true → PureOK Try.prog 36 (mkA [.vsl (.int .i64)] x) ⟨.vsl (.int .i64), F36 x⟩ := by
  rintro ⟨l, u⟩ hk
  have hk := of_decide_eq_true hk
  exact clone_pure (o2 := clOp Try.f36.body 0) (o3 := clOp Try.f36.body 1) (o4 := clOp Try.f36.body 2) (i0 := 0) (i1 := 1) (thn := clThn Try.f36.body) (tail := clTail Try.f36.body) (T := 33) (T' := 33) (eT := 3) CxOK36 Try.func36 (by kernel_rfl)
    ⟨by kernel_rfl, by kernel_rfl, by kernel_rfl⟩ ⟨by kernel_rfl, by kernel_rfl, by kernel_rfl⟩ ⟨by kernel_rfl, by kernel_rfl, by kernel_rfl⟩ (by kernel_rfl) (by kernel_rfl) rfl (fun h => by
      have h : l = [] := h
      subst h; exact n36) LOK36t (E36_eq hk)
/-! ## What the law's examples say -/
noncomputable def FA (f : Nat) : Option FI := match Nat.beq f 36 with | true => none | false => Try.F f
theorem FOKA : FOK Try.prog FA := fun f i h => by
  unfold FA at h
  split at h
  · cases h
  · exact Try.FOK f i h
noncomputable def DA : Kn := kOf [(36, sm [.vsl (.int .i64)] (.vsl (.int .i64)) F36 G36)]
theorem DAOK : KOK Try.prog DA := KOK.cons Try.call36 (SmOK.sm p36) KOK.nil
noncomputable def F8 : Unit → Bool := fun _ => true
noncomputable def G8 : Unit → Bool := fun _ => true
theorem t8 : fnT ⟨true, Try.Θl, KX Try.Θl FA DA 100 10, 100, fun _ => none, fun _ => none⟩ Try.f8 .bool [] = some true := by kernel_rfl
theorem p8 : ∀ x, G8 x = true → PureOK Try.prog 8 (mkA [] x) ⟨.bool, F8 x⟩ := fun x _ => fnT_pure Try.tabOKl (KX_ok Try.tabOKl FOKA DAOK (by kernel_rfl) 10) (by kernel_rfl) Try.func8 t8
end Go.Proofs
