import Derived.Test.YtlakcjlgjmeefaaGreatTK
import Derived.Test.YtlakcjlgjmeefaaGreatGd
namespace Go.Proofs
open Go.GX
set_option linter.unusedVariables false
set_option maxRecDepth 100000
noncomputable abbrev Tryo.prog := Tryz.prog
noncomputable abbrev Tryo.Θl := Tryz.Θ
theorem Tryo.tabOKl : TabOK Tryo.prog Tryo.Θl := Tryz.tabOK
noncomputable def Tryo.tab : Tr TI := (.nd (.nd (.nd (.nd (.nd (.nd (.nd (.nd .lf (some ⟨(.int .u64), 8, [], true⟩) .lf) (some ⟨.slice, 24, [69], false⟩) .lf) none (.nd (.nd .lf (some ⟨(.vsl (.pair (.int .i64) (.pair (.pair (.pair (.int .u64) (.pair (.int .u64) .unit)) (.pair (.int .u64) (.pair (.int .u64) .unit))) (.pair (.int .i64) (.pair (.int .i64) (.pair (.int .i64) .unit)))))), 24, [38], false⟩) .lf) (some ⟨.ptr, 8, [98], false⟩) .lf)) none (.nd .lf (some ⟨.slice, 24, [45], false⟩) .lf)) none (.nd (.nd .lf (some ⟨(.arr 11 (.pair (.int .i64) (.pair (.pair (.pair (.int .u64) (.pair (.int .u64) .unit)) (.pair (.int .u64) (.pair (.int .u64) .unit))) (.pair (.int .i64) (.pair (.int .i64) (.pair (.int .i64) .unit)))))), 704, [38], true⟩) .lf) (some ⟨(.vsl (.pair (.int .i64) (.pair (.int .i64) (.pair (.int .i64) (.pair (.int .i64) .unit))))), 24, [56], false⟩) (.nd (.nd (.nd .lf (some ⟨.ptr, 8, [153], false⟩) .lf) none .lf) none .lf))) (some ⟨(.int .i64), 8, [], true⟩) (.nd (.nd (.nd (.nd .lf (some ⟨.slice, 24, [66], false⟩) (.nd .lf (some ⟨(.int .i64), 8, [], true⟩) .lf)) none (.nd .lf none (.nd .lf (some ⟨.func, 8, [], false⟩) .lf))) none (.nd .lf (some ⟨(.pair (.int .i64) (.pair (.int .i64) (.pair (.int .i64) (.pair (.int .i64) (.pair (.int .i64) .unit))))), 40, [3, 3, 3, 3, 3], true⟩) (.nd .lf none (.nd .lf (some ⟨(.vsl (.arr 2 (.int .i64))), 24, [242], false⟩) .lf)))) none (.nd (.nd (.nd (.nd (.nd .lf (some ⟨(.int .u64), 8, [], true⟩) .lf) none .lf) none .lf) (some ⟨.slice, 24, [3], false⟩) .lf) none .lf))) none (.nd (.nd (.nd (.nd (.nd (.nd .lf (some ⟨.ptr, 8, [26], false⟩) .lf) none .lf) none (.nd .lf none (.nd .lf (some ⟨(.int .i16), 2, [], true⟩) .lf))) none .lf) (some ⟨.str, 16, [], true⟩) (.nd (.nd (.nd .lf (some ⟨.func, 8, [], false⟩) .lf) (some ⟨(.pair (.int .i64) (.pair (.int .i64) (.pair (.pair (.int .i64) (.pair (.pair (.pair (.int .u64) (.pair (.int .u64) .unit)) (.pair (.int .u64) (.pair (.int .u64) .unit))) (.pair (.int .i64) (.pair (.int .i64) (.pair (.int .i64) .unit))))) .unit))), 80, [3, 3, 38], true⟩) .lf) none (.nd (.nd (.nd .lf (some ⟨(.pair (.pair (.arr 11 (.pair (.int .i64) (.pair (.pair (.pair (.int .u64) (.pair (.int .u64) .unit)) (.pair (.int .u64) (.pair (.int .u64) .unit))) (.pair (.int .i64) (.pair (.int .i64) (.pair (.int .i64) .unit)))))) (.pair (.arr 64 (.pair (.int .i64) (.pair (.int .i64) (.pair (.pair (.int .i64) (.pair (.pair (.pair (.int .u64) (.pair (.int .u64) .unit)) (.pair (.int .u64) (.pair (.int .u64) .unit))) (.pair (.int .i64) (.pair (.int .i64) (.pair (.int .i64) .unit))))) .unit)))) (.pair (.int .i64) (.pair .slice (.pair (.int .i64) .unit))))) (.pair (.vsl (.pair (.int .i64) (.pair (.int .i64) (.pair (.int .i64) (.pair (.int .i64) .unit))))) (.pair (.pair (.vsl (.int .i64)) (.pair .slice .unit)) .unit))), 5936, [45, 23, 148], false⟩) .lf) none .lf) none .lf))) (some ⟨(.int .u8), 1, [], true⟩) (.nd (.nd (.nd (.nd (.nd (.nd .lf (some ⟨(.vsl (.pair (.int .i64) (.pair .bool (.pair .bool .unit)))), 24, [264], false⟩) .lf) none .lf) (some ⟨(.pair (.pair (.pair (.arr 11 (.pair (.int .i64) (.pair (.pair (.pair (.int .u64) (.pair (.int .u64) .unit)) (.pair (.int .u64) (.pair (.int .u64) .unit))) (.pair (.int .i64) (.pair (.int .i64) (.pair (.int .i64) .unit)))))) (.pair (.arr 64 (.pair (.int .i64) (.pair (.int .i64) (.pair (.pair (.int .i64) (.pair (.pair (.pair (.int .u64) (.pair (.int .u64) .unit)) (.pair (.int .u64) (.pair (.int .u64) .unit))) (.pair (.int .i64) (.pair (.int .i64) (.pair (.int .i64) .unit))))) .unit)))) (.pair (.int .i64) (.pair .slice (.pair (.int .i64) .unit))))) (.pair (.int .i64) .unit)) (.pair .slice .unit)), 5896, [66, 67], false⟩) .lf) none .lf) (some ⟨(.int .i32), 4, [], true⟩) .lf) none (.nd (.nd (.nd (.nd (.nd .lf (some ⟨.unit, 0, [], true⟩) .lf) none .lf) none .lf) (some ⟨(.pair (.arr 11 (.pair (.int .i64) (.pair (.pair (.pair (.int .u64) (.pair (.int .u64) .unit)) (.pair (.int .u64) (.pair (.int .u64) .unit))) (.pair (.int .i64) (.pair (.int .i64) (.pair (.int .i64) .unit)))))) (.pair (.arr 64 (.pair (.int .i64) (.pair (.int .i64) (.pair (.pair (.int .i64) (.pair (.pair (.pair (.int .u64) (.pair (.int .u64) .unit)) (.pair (.int .u64) (.pair (.int .u64) .unit))) (.pair (.int .i64) (.pair (.int .i64) (.pair (.int .i64) .unit))))) .unit)))) (.pair (.int .i64) (.pair .slice (.pair (.int .i64) .unit))))), 5864, [39, 42, 3, 43, 3], false⟩) .lf) none (.nd .lf none (.nd .lf (some ⟨(.arr 2 (.pair (.int .i64) (.pair (.int .i64) (.pair (.int .i64) (.pair (.int .i64) (.pair (.int .i64) .unit)))))), 80, [51], true⟩) .lf)))))) none (.nd (.nd (.nd (.nd (.nd .lf (some ⟨(.int .u64), 8, [], true⟩) (.nd .lf (some ⟨.map, 8, [3, 3], false⟩) .lf)) none .lf) none (.nd (.nd (.nd (.nd (.nd .lf (some ⟨(.pair (.int .i64) (.pair .bool (.pair .bool .unit))), 16, [3, 4, 4], true⟩) .lf) none .lf) none (.nd .lf (some ⟨.func, 8, [], false⟩) .lf)) none .lf) none (.nd .lf (some ⟨(.pair (.int .i64) (.pair (.int .i64) (.pair (.int .i64) (.pair (.int .i64) .unit)))), 32, [3, 3, 3, 3], true⟩) .lf))) (some ⟨.bool, 1, [], true⟩) (.nd (.nd (.nd .lf (some ⟨(.pair (.pair (.int .u64) (.pair (.int .u64) .unit)) (.pair (.int .u64) (.pair (.int .u64) .unit))), 32, [34, 32, 32], true⟩) (.nd .lf none (.nd .lf (some ⟨(.int .i8), 1, [], true⟩) .lf))) (some ⟨.iface, 16, [], false⟩) (.nd (.nd (.nd .lf (some ⟨(.pair (.vsl (.int .i64)) (.pair .slice .unit)), 48, [146, 43], false⟩) .lf) none .lf) none .lf)) none (.nd (.nd (.nd .lf (some ⟨(.pair (.pair (.arr 11 (.pair (.int .i64) (.pair (.pair (.pair (.int .u64) (.pair (.int .u64) .unit)) (.pair (.int .u64) (.pair (.int .u64) .unit))) (.pair (.int .i64) (.pair (.int .i64) (.pair (.int .i64) .unit)))))) (.pair (.arr 64 (.pair (.int .i64) (.pair (.int .i64) (.pair (.pair (.int .i64) (.pair (.pair (.pair (.int .u64) (.pair (.int .u64) .unit)) (.pair (.int .u64) (.pair (.int .u64) .unit))) (.pair (.int .i64) (.pair (.int .i64) (.pair (.int .i64) .unit))))) .unit)))) (.pair (.int .i64) (.pair .slice (.pair (.int .i64) .unit))))) (.pair (.vsl (.pair (.int .i64) (.pair (.int .i64) (.pair (.int .i64) (.pair (.int .i64) .unit))))) (.pair (.vsl (.pair (.int .i64) (.pair (.int .i64) (.pair (.int .i64) (.pair (.int .i64) (.pair (.int .i64) .unit)))))) (.pair (.int .i64) .unit)))), 5920, [45, 23, 22, 3], false⟩) .lf) none .lf) (some ⟨(.pair (.int .i64) (.pair (.int .i64) (.pair (.int .i64) .unit))), 24, [26, 3, 3], true⟩) (.nd .lf (some ⟨(.vsl .bool), 24, [4], false⟩) .lf)))) (some ⟨(.int .i64), 8, [], true⟩) (.nd (.nd (.nd (.nd (.nd .lf (some ⟨(.pair (.pair (.arr 11 (.pair (.int .i64) (.pair (.pair (.pair (.int .u64) (.pair (.int .u64) .unit)) (.pair (.int .u64) (.pair (.int .u64) .unit))) (.pair (.int .i64) (.pair (.int .i64) (.pair (.int .i64) .unit)))))) (.pair (.arr 64 (.pair (.int .i64) (.pair (.int .i64) (.pair (.pair (.int .i64) (.pair (.pair (.pair (.int .u64) (.pair (.int .u64) .unit)) (.pair (.int .u64) (.pair (.int .u64) .unit))) (.pair (.int .i64) (.pair (.int .i64) (.pair (.int .i64) .unit))))) .unit)))) (.pair (.int .i64) (.pair .slice (.pair (.int .i64) .unit))))) (.pair (.int .i64) .unit)), 5872, [45, 3], false⟩) .lf) (some ⟨(.pair (.int .u64) (.pair (.int .u64) .unit)), 16, [32, 32], true⟩) (.nd .lf (some ⟨(.pair .map (.pair .map .unit)), 16, [96, 96], false⟩) .lf)) none (.nd (.nd (.nd .lf (some ⟨(.vsl (.int .i64)), 24, [195], false⟩) .lf) none .lf) none (.nd (.nd .lf (some ⟨.func, 8, [], false⟩) .lf) none (.nd .lf (some ⟨(.arr 2 (.int .i64)), 16, [3], true⟩) .lf)))) none (.nd (.nd (.nd (.nd (.nd .lf (some ⟨.func, 8, [], false⟩) .lf) none .lf) none .lf) (some ⟨(.arr 64 (.pair (.int .i64) (.pair (.int .i64) (.pair (.pair (.int .i64) (.pair (.pair (.pair (.int .u64) (.pair (.int .u64) .unit)) (.pair (.int .u64) (.pair (.int .u64) .unit))) (.pair (.int .i64) (.pair (.int .i64) (.pair (.int .i64) .unit))))) .unit)))), 5120, [41], true⟩) .lf) (some ⟨(.int .i64), 8, [], true⟩) (.nd .lf none (.nd (.nd .lf (some ⟨.ptr, 8, [41], false⟩) .lf) none .lf)))) none (.nd (.nd (.nd .lf (some ⟨(.pair (.int .i64) (.pair (.pair (.pair (.int .u64) (.pair (.int .u64) .unit)) (.pair (.int .u64) (.pair (.int .u64) .unit))) (.pair (.int .i64) (.pair (.int .i64) (.pair (.int .i64) .unit))))), 64, [3, 36, 3, 3, 3], true⟩) (.nd .lf (some ⟨.func, 8, [], false⟩) .lf)) (some ⟨(.vsl (.pair (.int .i64) (.pair (.int .i64) (.pair (.int .i64) (.pair (.int .i64) (.pair (.int .i64) .unit)))))), 24, [51], false⟩) (.nd .lf none (.nd (.nd .lf (some ⟨(.pair (.int .i64) .unit), 8, [26], true⟩) .lf) none .lf))) none (.nd (.nd (.nd (.nd (.nd .lf (some ⟨.func, 8, [], false⟩) .lf) none .lf) none .lf) (some ⟨.func, 8, [], false⟩) .lf) none (.nd .lf (some ⟨.slice, 24, [47], false⟩) (.nd .lf (some ⟨(.int .u32), 4, [], true⟩) .lf)))))))
noncomputable def Tryo.Θ : Tab := fun n => Tryo.tab.get n
theorem Tryo.tabOK : TabOK Tryo.prog Tryo.Θ := TabOK.of (by kernel_rfl)
noncomputable abbrev Tryo.f69 := Tryz.f69
theorem Tryo.func69 : Tryo.prog.funcs[69]? = some Tryo.f69 := Tryz.func69
abbrev Tryo.call69 := @Tryz.call69
noncomputable abbrev Tryo.f35 := Tryz.f35
theorem Tryo.func35 : Tryo.prog.funcs[35]? = some Tryo.f35 := Tryz.func35
abbrev Tryo.call35 := @Tryz.call35
noncomputable abbrev Tryo.f47 := Tryz.f47
theorem Tryo.func47 : Tryo.prog.funcs[47]? = some Tryo.f47 := Tryz.func47
abbrev Tryo.call47 := @Tryz.call47
noncomputable abbrev Tryo.f146 := Tryz.f146
theorem Tryo.func146 : Tryo.prog.funcs[146]? = some Tryo.f146 := Tryz.func146
abbrev Tryo.call146 := @Tryz.call146
noncomputable abbrev Tryo.f195 := Tryz.f195
theorem Tryo.func195 : Tryo.prog.funcs[195]? = some Tryo.f195 := Tryz.func195
abbrev Tryo.call195 := @Tryz.call195
noncomputable abbrev Tryo.f238 := Tryz.f238
theorem Tryo.func238 : Tryo.prog.funcs[238]? = some Tryo.f238 := Tryz.func238
abbrev Tryo.call238 := @Tryz.call238
noncomputable abbrev Tryo.f194 := Tryz.f194
theorem Tryo.func194 : Tryo.prog.funcs[194]? = some Tryo.f194 := Tryz.func194
abbrev Tryo.call194 := @Tryz.call194
noncomputable abbrev Tryo.f139 := Tryz.f139
theorem Tryo.func139 : Tryo.prog.funcs[139]? = some Tryo.f139 := Tryz.func139
abbrev Tryo.call139 := @Tryz.call139
noncomputable abbrev Tryo.f142 := Tryz.f142
theorem Tryo.func142 : Tryo.prog.funcs[142]? = some Tryo.f142 := Tryz.func142
abbrev Tryo.call142 := @Tryz.call142
noncomputable abbrev Tryo.f103 := Tryz.f103
theorem Tryo.func103 : Tryo.prog.funcs[103]? = some Tryo.f103 := Tryz.func103
abbrev Tryo.call103 := @Tryz.call103
noncomputable def C69g : Cx := CxL Tryo.Θ (kOf []) (lOf [])
theorem CxOK69g : CxOK Tryo.prog C69g := ⟨Tryo.tabOK, KOK.nil, by kernel_rfl, POK.none⟩
noncomputable def F69g : (List Int × Unit) → List Int := fun x => x.1
noncomputable def G69g : (List Int × Unit) → Bool := fun x => decide (x.1.length * 8 ≤ 140737488355328)
noncomputable def E69g : List Int → Option (List Int) := fun l => codeT C69g (clTail Tryo.f69.body) ⟨putArgs [⟨.vsl (.int .i64), l⟩] 0 .lf, 8, [], 0, true⟩ (endH C69g.Θ Tryo.f69 (leafO (.own 0 (.int .i64))))
noncomputable def S69g (a0 : List Int) : Option (List Int) :=
  (bif (tt 2 (decide ((0 + a0.length) * 8 ≤ 140737488355328))) then (bif (tt 1 (decide (((0 + (0 + a0.length)) : Nat) ≤ (0 + a0.length)))) then some (sec 0 a0 0 (0 + a0.length)) else none) else none)
theorem t69g (l : List Int) : E69g l = S69g l := by kernel_rfl
theorem E69g_eq {l : List Int} (h : l.length * 8 ≤ 140737488355328) : E69g l = some l := by
  rw [t69g]
  unfold S69g
  have e : sec 0 l 0 (0 + l.length) = l := sec_full (by omega)
  rw [e, decide_eq_true (show (0 + l.length) * 8 ≤ 140737488355328 by omega), decide_eq_true (show 0 + (0 + l.length) ≤ 0 + l.length by omega)]
  rfl
theorem n69gt : fnH C69g Tryo.f69 [⟨.slice, none⟩] [] 0 (leafO (.own 0 (.int .i64))) = some ([] : List Int) := by kernel_rfl
theorem LOK69g : LOK Tryo.prog C69g 0 (bodyF Tryo.f69) := Lall.LOK rfl (by kernel_rfl) trivial
theorem LOK69gt : LOK Tryo.prog C69g 0 (clTail Tryo.f69.body) := Lall.LOK rfl (by kernel_rfl) trivial
theorem sm69g_ok : SmOK Tryo.prog 69 (smG [.p (.own 0 (.int .i64))] (.own 0 (.int .i64)) 1 F69g G69g) := SmOK.smG (n1 := 0) (by kernel_rfl) (by
  rintro ⟨l, u⟩ hk
  have hk := of_decide_eq_true hk
  exact clone_gok (o2 := clOp Tryo.f69.body 0) (o3 := clOp Tryo.f69.body 1) (o4 := clOp Tryo.f69.body 2) (i0 := 0) (i1 := 1) (thn := clThn Tryo.f69.body) (tail := clTail Tryo.f69.body) (T := 43) (T' := 43) (eT := 3) CxOK69g Tryo.func69 (by kernel_rfl)
    ⟨by kernel_rfl, by kernel_rfl, by kernel_rfl⟩ ⟨by kernel_rfl, by kernel_rfl, by kernel_rfl⟩ ⟨by kernel_rfl, by kernel_rfl, by kernel_rfl⟩ (by kernel_rfl) (by kernel_rfl) rfl (by decide) (fun h => by
      have h : l = [] := h
      subst h; exact n69gt) (LOK.fn LOK69g) LOK69gt (E69g_eq hk))
end Go.Proofs
