import Derived.Test.YtjnbpklllapjiaaA
import Derived.Test.YtjnbpklllapjiaaGe
namespace Go.Proofs
open Go.GX
set_option linter.unusedVariables false
/-! ## slices.Clone, with a slice of its own -/
noncomputable def C36g : Cx := CxL Try.Θ (kOf []) (lOf [])
theorem CxOK36g : CxOK Try.prog C36g := ⟨Try.tabOK, KOK.nil, by kernel_rfl, POK.none⟩
noncomputable def F36g : (List Int × Unit) → List Int := fun x => x.1
noncomputable def G36g : (List Int × Unit) → Bool := fun x => decide (x.1.length * 8 ≤ 140737488355328)
noncomputable def E36g : List Int → Option (List Int) := fun l => codeT C36g (clTail Try.f36.body) ⟨putArgs [⟨.vsl (.int .i64), l⟩] 0 .lf, 8, [], 0, true⟩ (endH C36g.Θ Try.f36 (leafO (.own 0 (.int .i64))))
noncomputable def S36g (a0 : List Int) : Option (List Int) :=
  (bif (tt 2 (decide ((0 + a0.length) * 8 ≤ 140737488355328))) then (bif (tt 1 (decide (((0 + (0 + a0.length)) : Nat) ≤ (0 + a0.length)))) then some (sec 0 a0 0 (0 + a0.length)) else none) else none)
theorem t36g (l : List Int) : E36g l = S36g l := by kernel_rfl
theorem E36g_eq {l : List Int} (h : l.length * 8 ≤ 140737488355328) : E36g l = some l := by
  rw [t36g]
  unfold S36g
  have e : sec 0 l 0 (0 + l.length) = l := sec_full (by omega)
  rw [e, decide_eq_true (show (0 + l.length) * 8 ≤ 140737488355328 by omega), decide_eq_true (show 0 + (0 + l.length) ≤ 0 + l.length by omega)]
  rfl
theorem n36gt : fnH C36g Try.f36 [⟨.slice, none⟩] [] 0 (leafO (.own 0 (.int .i64))) = some ([] : List Int) := by kernel_rfl
theorem LOK36g : LOK Try.prog C36g 0 (bodyF Try.f36) := Lall.LOK rfl (by kernel_rfl) trivial
theorem LOK36gt : LOK Try.prog C36g 0 (clTail Try.f36.body) := Lall.LOK rfl (by kernel_rfl) trivial
theorem sm36g_ok : SmOK Try.prog 36 (smG [.p (.own 0 (.int .i64))] (.own 0 (.int .i64)) 1 F36g G36g) := SmOK.smG (n1 := 0) (by kernel_rfl) (by
  rintro ⟨l, u⟩ hk
  have hk := of_decide_eq_true hk
  exact clone_gok (o2 := clOp Try.f36.body 0) (o3 := clOp Try.f36.body 1) (o4 := clOp Try.f36.body 2) (i0 := 0) (i1 := 1) (thn := clThn Try.f36.body) (tail := clTail Try.f36.body) (T := 33) (T' := 33) (eT := 3) CxOK36g Try.func36 (by kernel_rfl)
    ⟨by kernel_rfl, by kernel_rfl, by kernel_rfl⟩ ⟨by kernel_rfl, by kernel_rfl, by kernel_rfl⟩ ⟨by kernel_rfl, by kernel_rfl, by kernel_rfl⟩ (by kernel_rfl) (by kernel_rfl) rfl (by decide) (fun h => by
      have h : l = [] := h
      subst h; exact n36gt) (LOK.fn LOK36g) LOK36gt (E36g_eq hk))
end Go.Proofs
