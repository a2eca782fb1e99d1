import Derived.Test.YtlakcjlgjmeefaaGreatTK
import Derived.Test.YtlakcjlgjmeefaaGreatGd
namespace Go.Proofs
open Go.GX
set_option linter.unusedVariables false
set_option maxRecDepth 100000
noncomputable def F69 : (List Int × Unit) → List Int := fun x => x.1
noncomputable def C69 : Cx := CxL Tryz.Θ (kOf []) (lOf [])
theorem CxOK69 : CxOK Tryz.prog C69 := ⟨Tryz.tabOK, KOK.nil, by kernel_rfl, POK.none⟩
noncomputable def E69 : (List Int × Unit) → Option (List Int) := fun x => codeT C69 (clTail Tryz.f69.body) ⟨putArgs [⟨.vsl (.int .i64), x.1⟩] 0 .lf, 8, [], 0, true⟩ (endK C69.Θ Tryz.f69 (.vsl (.int .i64)))
noncomputable def S69 (a0 : List Int) : Option (List Int) :=
  (bif (((tt 3 (decide (((0 + (0 + a0.length)) : Nat) ≤ (0 + a0.length)))) && (tt 1 (decide (((0 + (0 + a0.length)) : Nat) ≤ (0 + a0.length))))) && (tt 2 (decide ((0 + a0.length) * 8 ≤ 140737488355328)))) then some (sec 0 a0 0 (0 + a0.length)) else none)
theorem t69 (l : List Int) : E69 (l, ()) = S69 l := by kernel_rfl
theorem E69_eq {l : List Int} (h : l.length * 8 ≤ 140737488355328) : E69 (l, ()) = some l := by
  rw [t69]
  unfold S69
  have e : sec 0 l 0 (0 + l.length) = l := sec_full (by omega)
  rw [e, decide_eq_true (show (0 + l.length) * 8 ≤ 140737488355328 by omega), decide_eq_true (show 0 + (0 + l.length) ≤ 0 + l.length by omega)]
  rfl
noncomputable def G69 : (List Int × Unit) → Bool := fun x => decide (x.1.length * 8 ≤ 140737488355328)
theorem n69t : fnT C69 Tryz.f69 (.vsl (.int .i64)) [⟨.slice, none⟩] = some ([] : List Int) := by kernel_rfl
theorem LOK69 : LOK Tryz.prog C69 0 (bodyF Tryz.f69) := Lall.LOK rfl (by kernel_rfl) trivial
theorem LOK69t : LOK Tryz.prog C69 0 (clTail Tryz.f69.body) := Lall.LOK rfl (by kernel_rfl) trivial
theorem n69 : PureOK Tryz.prog 69 [⟨.slice, none⟩] ⟨.vsl (.int .i64), []⟩ := PureOK.of1 (T := .vsl (.int .i64)) CxOK69 Tryz.func69 (LOK.fn LOK69) n69t rfl
theorem p69 : ∀ x, G69 x = true → PureOK Tryz.prog 69 (mkA [.vsl (.int .i64)] x) ⟨.vsl (.int .i64), F69 x⟩ := by
  rintro ⟨l, u⟩ hk
  have hk := of_decide_eq_true hk
  exact clone_pure (o2 := clOp Tryz.f69.body 0) (o3 := clOp Tryz.f69.body 1) (o4 := clOp Tryz.f69.body 2) (i0 := 0) (i1 := 1) (thn := clThn Tryz.f69.body) (tail := clTail Tryz.f69.body) (T := 43) (T' := 43) (eT := 3) CxOK69 Tryz.func69 (by kernel_rfl)
    ⟨by kernel_rfl, by kernel_rfl, by kernel_rfl⟩ ⟨by kernel_rfl, by kernel_rfl, by kernel_rfl⟩ ⟨by kernel_rfl, by kernel_rfl, by kernel_rfl⟩ (by kernel_rfl) (by kernel_rfl) rfl (fun h => by
      have h : l = [] := h
      subst h; exact n69) LOK69t (E69_eq hk)
noncomputable def DA : Kn := kOf [(69, sm [.vsl (.int .i64)] (.vsl (.int .i64)) F69 G69)]
theorem DAOK : KOK Tryz.prog DA := KOK.cons Tryz.call69 (SmOK.sm p69) KOK.nil
noncomputable def CA : Cx := ⟨true, Tryz.Θl, KX Tryz.Θl Tryz.F DA 100 14, 100, fun _ => none, fun _ => none⟩
theorem CAOK : CxOK Tryz.prog CA := ⟨Tryz.tabOKl, KX_ok Tryz.tabOKl Tryz.FOK DAOK (by kernel_rfl) 14, by kernel_rfl, POK.none⟩
end Go.Proofs
