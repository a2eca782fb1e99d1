import Derived.Test.YtfhpihomdnbgpaaI
import Derived.Test.YtfhpihomdnbgpaaGd
namespace Go.Proofs
open Go.GX
set_option linter.unusedVariables false
set_option maxRecDepth 100000
noncomputable abbrev Tryo.prog := Try.prog
noncomputable abbrev Tryo.Θl := Try.Θ
theorem Tryo.tabOKl : TabOK Tryo.prog Tryo.Θl := Try.tabOK
noncomputable def Tryo.tab : Tr TI := (.nd (.nd (.nd (.nd (.nd (.nd .lf (some ⟨(.pair (.int .i64) (.pair (.int .i64) (.pair (.pair (.int .i64) (.pair (.pair (.pair (.int .u64) (.pair (.int .u64) .unit)) (.pair (.int .u64) (.pair (.int .u64) .unit))) (.pair (.int .i64) (.pair (.int .i64) (.pair (.int .i64) .unit))))) .unit))), 80, [3, 3, 28], true⟩) .lf) none .lf) none .lf) (some ⟨(.int .i64), 8, [], true⟩) (.nd (.nd (.nd .lf (some ⟨(.pair (.arr 11 (.pair (.int .i64) (.pair (.pair (.pair (.int .u64) (.pair (.int .u64) .unit)) (.pair (.int .u64) (.pair (.int .u64) .unit))) (.pair (.int .i64) (.pair (.int .i64) (.pair (.int .i64) .unit)))))) (.pair (.arr 64 (.pair (.int .i64) (.pair (.int .i64) (.pair (.pair (.int .i64) (.pair (.pair (.pair (.int .u64) (.pair (.int .u64) .unit)) (.pair (.int .u64) (.pair (.int .u64) .unit))) (.pair (.int .i64) (.pair (.int .i64) (.pair (.int .i64) .unit))))) .unit)))) (.pair (.int .i64) (.pair .slice (.pair (.int .i64) .unit))))), 5864, [29, 32, 3, 33, 3], false⟩) (.nd .lf (some ⟨.ptr, 8, [31], false⟩) .lf)) none (.nd .lf (some ⟨(.pair (.int .i64) (.pair (.int .i64) (.pair (.int .i64) (.pair (.int .i64) .unit)))), 32, [3, 3, 3, 3], true⟩) .lf)) none (.nd (.nd (.nd .lf (some ⟨(.int .u64), 8, [], true⟩) .lf) none .lf) none (.nd .lf (some ⟨.ptr, 8, [61], false⟩) .lf)))) none (.nd (.nd (.nd (.nd .lf (some ⟨.slice, 24, [3], false⟩) .lf) none .lf) (some ⟨.str, 16, [], true⟩) .lf) (some ⟨(.int .u8), 1, [], true⟩) (.nd (.nd .lf none (.nd (.nd .lf (some ⟨.func, 8, [], false⟩) .lf) (some ⟨.func, 8, [], false⟩) .lf)) none (.nd (.nd (.nd .lf (some ⟨(.int .i64), 8, [], true⟩) .lf) none .lf) (some ⟨(.arr 11 (.pair (.int .i64) (.pair (.pair (.pair (.int .u64) (.pair (.int .u64) .unit)) (.pair (.int .u64) (.pair (.int .u64) .unit))) (.pair (.int .i64) (.pair (.int .i64) (.pair (.int .i64) .unit)))))), 704, [28], true⟩) (.nd .lf (some ⟨(.pair (.pair (.arr 11 (.pair (.int .i64) (.pair (.pair (.pair (.int .u64) (.pair (.int .u64) .unit)) (.pair (.int .u64) (.pair (.int .u64) .unit))) (.pair (.int .i64) (.pair (.int .i64) (.pair (.int .i64) .unit)))))) (.pair (.arr 64 (.pair (.int .i64) (.pair (.int .i64) (.pair (.pair (.int .i64) (.pair (.pair (.pair (.int .u64) (.pair (.int .u64) .unit)) (.pair (.int .u64) (.pair (.int .u64) .unit))) (.pair (.int .i64) (.pair (.int .i64) (.pair (.int .i64) .unit))))) .unit)))) (.pair (.int .i64) (.pair .slice (.pair (.int .i64) .unit))))) (.pair (.vsl (.pair (.int .i64) (.pair (.int .i64) (.pair (.int .i64) (.pair (.int .i64) .unit))))) (.pair (.pair .slice (.pair .slice .unit)) .unit))), 5936, [35, 36, 56], false⟩) .lf))))) none (.nd (.nd (.nd (.nd (.nd .lf (some ⟨(.arr 64 (.pair (.int .i64) (.pair (.int .i64) (.pair (.pair (.int .i64) (.pair (.pair (.pair (.int .u64) (.pair (.int .u64) .unit)) (.pair (.int .u64) (.pair (.int .u64) .unit))) (.pair (.int .i64) (.pair (.int .i64) (.pair (.int .i64) .unit))))) .unit)))), 5120, [31], true⟩) (.nd .lf (some ⟨.ptr, 8, [40], false⟩) .lf)) none .lf) none (.nd (.nd .lf (some ⟨(.int .i64), 8, [], true⟩) .lf) (some ⟨(.pair (.int .u64) (.pair (.int .u64) .unit)), 16, [22, 22], true⟩) (.nd .lf (some ⟨(.pair .slice (.pair .slice .unit)), 48, [54, 33], false⟩) .lf))) (some ⟨.bool, 1, [], true⟩) (.nd (.nd (.nd .lf (some ⟨(.vsl (.pair (.int .i64) (.pair (.int .i64) (.pair (.int .i64) (.pair (.int .i64) .unit))))), 24, [51], false⟩) .lf) (some ⟨.iface, 16, [], false⟩) .lf) none (.nd (.nd .lf (some ⟨(.arr 2 (.int .i64)), 16, [3], true⟩) (.nd .lf (some ⟨(.pair (.int .i64) .unit), 8, [40], true⟩) .lf)) (some ⟨(.pair (.int .i64) (.pair (.pair (.pair (.int .u64) (.pair (.int .u64) .unit)) (.pair (.int .u64) (.pair (.int .u64) .unit))) (.pair (.int .i64) (.pair (.int .i64) (.pair (.int .i64) .unit))))), 64, [3, 26, 3, 3, 3], true⟩) .lf))) none (.nd (.nd .lf none (.nd .lf (some ⟨(.pair (.pair (.int .u64) (.pair (.int .u64) .unit)) (.pair (.int .u64) (.pair (.int .u64) .unit))), 32, [24, 22, 22], true⟩) .lf)) none (.nd (.nd (.nd (.nd .lf (some ⟨(.vsl (.pair (.int .i64) (.pair (.pair (.pair (.int .u64) (.pair (.int .u64) .unit)) (.pair (.int .u64) (.pair (.int .u64) .unit))) (.pair (.int .i64) (.pair (.int .i64) (.pair (.int .i64) .unit)))))), 24, [28], false⟩) .lf) none .lf) (some ⟨(.int .u64), 8, [], true⟩) (.nd .lf (some ⟨.slice, 24, [77], false⟩) .lf)) none .lf))))
noncomputable def Tryo.Θ : Tab := fun n => Tryo.tab.get n
theorem Tryo.tabOK : TabOK Tryo.prog Tryo.Θ := TabOK.of (by kernel_rfl)
noncomputable abbrev Tryo.f9 := Try.f9
theorem Tryo.func9 : Tryo.prog.funcs[9]? = some Tryo.f9 := Try.func9
abbrev Tryo.call9 := @Try.call9
noncomputable abbrev Tryo.f16 := Try.f16
theorem Tryo.func16 : Tryo.prog.funcs[16]? = some Tryo.f16 := Try.func16
abbrev Tryo.call16 := @Try.call16
noncomputable abbrev Tryo.f17 := Try.f17
theorem Tryo.func17 : Tryo.prog.funcs[17]? = some Tryo.f17 := Try.func17
abbrev Tryo.call17 := @Try.call17
noncomputable abbrev Tryo.f18 := Try.f18
theorem Tryo.func18 : Tryo.prog.funcs[18]? = some Tryo.f18 := Try.func18
abbrev Tryo.call18 := @Try.call18
noncomputable abbrev Tryo.f19 := Try.f19
theorem Tryo.func19 : Tryo.prog.funcs[19]? = some Tryo.f19 := Try.func19
abbrev Tryo.call19 := @Try.call19
noncomputable abbrev Tryo.f20 := Try.f20
theorem Tryo.func20 : Tryo.prog.funcs[20]? = some Tryo.f20 := Try.func20
abbrev Tryo.call20 := @Try.call20
noncomputable abbrev Tryo.f21 := Try.f21
theorem Tryo.func21 : Tryo.prog.funcs[21]? = some Tryo.f21 := Try.func21
abbrev Tryo.call21 := @Try.call21
noncomputable abbrev Tryo.f22 := Try.f22
theorem Tryo.func22 : Tryo.prog.funcs[22]? = some Tryo.f22 := Try.func22
abbrev Tryo.call22 := @Try.call22
noncomputable abbrev Tryo.f23 := Try.f23
theorem Tryo.func23 : Tryo.prog.funcs[23]? = some Tryo.f23 := Try.func23
abbrev Tryo.call23 := @Try.call23
noncomputable abbrev Tryo.f24 := Try.f24
theorem Tryo.func24 : Tryo.prog.funcs[24]? = some Tryo.f24 := Try.func24
abbrev Tryo.call24 := @Try.call24
noncomputable abbrev Tryo.f25 := Try.f25
theorem Tryo.func25 : Tryo.prog.funcs[25]? = some Tryo.f25 := Try.func25
abbrev Tryo.call25 := @Try.call25
noncomputable abbrev Tryo.f26 := Try.f26
theorem Tryo.func26 : Tryo.prog.funcs[26]? = some Tryo.f26 := Try.func26
abbrev Tryo.call26 := @Try.call26
noncomputable abbrev Tryo.f36 := Try.f36
theorem Tryo.func36 : Tryo.prog.funcs[36]? = some Tryo.f36 := Try.func36
abbrev Tryo.call36 := @Try.call36
noncomputable abbrev Tryo.f38 := Try.f38
theorem Tryo.func38 : Tryo.prog.funcs[38]? = some Tryo.f38 := Try.func38
abbrev Tryo.call38 := @Try.call38
noncomputable abbrev Tryo.f43 := Try.f43
theorem Tryo.func43 : Tryo.prog.funcs[43]? = some Tryo.f43 := Try.func43
abbrev Tryo.call43 := @Try.call43
noncomputable abbrev Tryo.f44 := Try.f44
theorem Tryo.func44 : Tryo.prog.funcs[44]? = some Tryo.f44 := Try.func44
abbrev Tryo.call44 := @Try.call44
noncomputable abbrev Tryo.f45 := Try.f45
theorem Tryo.func45 : Tryo.prog.funcs[45]? = some Tryo.f45 := Try.func45
abbrev Tryo.call45 := @Try.call45
noncomputable abbrev Tryo.f46 := Try.f46
theorem Tryo.func46 : Tryo.prog.funcs[46]? = some Tryo.f46 := Try.func46
abbrev Tryo.call46 := @Try.call46
noncomputable abbrev Tryo.f47 := Try.f47
theorem Tryo.func47 : Tryo.prog.funcs[47]? = some Tryo.f47 := Try.func47
abbrev Tryo.call47 := @Try.call47
noncomputable abbrev Tryo.f48 := Try.f48
theorem Tryo.func48 : Tryo.prog.funcs[48]? = some Tryo.f48 := Try.func48
abbrev Tryo.call48 := @Try.call48
noncomputable abbrev Tryo.f51 := Try.f51
theorem Tryo.func51 : Tryo.prog.funcs[51]? = some Tryo.f51 := Try.func51
abbrev Tryo.call51 := @Try.call51
noncomputable abbrev Tryo.f52 := Try.f52
theorem Tryo.func52 : Tryo.prog.funcs[52]? = some Tryo.f52 := Try.func52
abbrev Tryo.call52 := @Try.call52
noncomputable abbrev Tryo.f53 := Try.f53
theorem Tryo.func53 : Tryo.prog.funcs[53]? = some Tryo.f53 := Try.func53
abbrev Tryo.call53 := @Try.call53
noncomputable abbrev Tryo.f60 := Try.f60
theorem Tryo.func60 : Tryo.prog.funcs[60]? = some Tryo.f60 := Try.func60
abbrev Tryo.call60 := @Try.call60
noncomputable abbrev Tryo.f61 := Try.f61
theorem Tryo.func61 : Tryo.prog.funcs[61]? = some Tryo.f61 := Try.func61
abbrev Tryo.call61 := @Try.call61
noncomputable abbrev Tryo.f70 := Try.f70
theorem Tryo.func70 : Tryo.prog.funcs[70]? = some Tryo.f70 := Try.func70
abbrev Tryo.call70 := @Try.call70
noncomputable def C38g : Cx := CxL Tryo.Θ (kOf []) (lOf [])
theorem CxOK38g : CxOK Tryo.prog C38g := ⟨Tryo.tabOK, KOK.nil, by kernel_rfl, POK.none⟩
noncomputable def F38g : (List Int × Unit) → List Int := fun x => x.1
noncomputable def G38g : (List Int × Unit) → Bool := fun x => decide (x.1.length * 8 ≤ 140737488355328)
noncomputable def E38g : List Int → Option (List Int) := fun l => codeT C38g (clTail Tryo.f38.body) ⟨putArgs [⟨.vsl (.int .i64), l⟩] 0 .lf, 8, [], 0, true⟩ (endH C38g.Θ Tryo.f38 (leafO (.own 0 (.int .i64))))
noncomputable def S38g (a0 : List Int) : Option (List Int) :=
 (bif (tt 2 (decide ((0 + a0.length) * 8 ≤ 140737488355328))) then (bif (tt 1 (decide (((0 + (0 + a0.length)) : Nat) ≤ (0 + a0.length)))) then some (sec 0 a0 0 (0 + a0.length)) else none) else none)
theorem t38g (l : List Int) : E38g l = S38g l := by kernel_rfl
theorem E38g_eq {l : List Int} (h : l.length * 8 ≤ 140737488355328) : E38g l = some l := by
 rw [t38g]
 unfold S38g
 have e : sec 0 l 0 (0 + l.length) = l := sec_full (by omega)
 rw [e, decide_eq_true (show (0 + l.length) * 8 ≤ 140737488355328 by omega), decide_eq_true (show 0 + (0 + l.length) ≤ 0 + l.length by omega)]
 rfl
theorem n38gt : fnH C38g Tryo.f38 [⟨.slice, none⟩] [] 0 (leafO (.own 0 (.int .i64))) = some ([] : List Int) := by kernel_rfl
theorem LOK38g : LOK Tryo.prog C38g 0 (bodyF Tryo.f38) := Lall.LOK rfl (by kernel_rfl) trivial
theorem LOK38gt : LOK Tryo.prog C38g 0 (clTail Tryo.f38.body) := Lall.LOK rfl (by kernel_rfl) trivial
theorem sm38g_ok : SmOK Tryo.prog 38 (smG [.p (.own 0 (.int .i64))] (.own 0 (.int .i64)) 1 F38g G38g) := SmOK.smG (n1 := 0) (by kernel_rfl) (by
 rintro ⟨l, u⟩ hk
 have hk := of_decide_eq_true hk
 exact clone_gok (o2 := clOp Tryo.f38.body 0) (o3 := clOp Tryo.f38.body 1) (o4 := clOp Tryo.f38.body 2) (i0 := 0) (i1 := 1) (thn := clThn Tryo.f38.body) (tail := clTail Tryo.f38.body) (T := 33) (T' := 33) (eT := 3) CxOK38g Tryo.func38 (by kernel_rfl)
  ⟨by kernel_rfl, by kernel_rfl, by kernel_rfl⟩ ⟨by kernel_rfl, by kernel_rfl, by kernel_rfl⟩ ⟨by kernel_rfl, by kernel_rfl, by kernel_rfl⟩ (by kernel_rfl) (by kernel_rfl) rfl (by decide) (fun h => by
   have h : l = [] := h
   subst h; exact n38gt) (LOK.fn LOK38g) LOK38gt (E38g_eq hk))
end Go.Proofs
