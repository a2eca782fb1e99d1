import Derived.Test.YtfhpihomdnbgpaaT
import Derived.Test.YtfhpihomdnbgpaaGd
namespace Go.Proofs
open Go.GX
set_option linter.unusedVariables false
set_option maxRecDepth 100000
noncomputable def F38 : (List Int × Unit) → List Int := fun x => x.1
noncomputable def C38 : Cx := CxL Try.Θ (kOf []) (lOf [])
theorem CxOK38 : CxOK Try.prog C38 := ⟨Try.tabOK, KOK.nil, by kernel_rfl, POK.none⟩
noncomputable def E38 : (List Int × Unit) → Option (List Int) := fun x => codeT C38 (clTail Try.f38.body) ⟨putArgs [⟨.vsl (.int .i64), x.1⟩] 0 .lf, 8, [], 0, true⟩ (endK C38.Θ Try.f38 (.vsl (.int .i64)))
noncomputable def S38 (a0 : List Int) : Option (List Int) :=
 (bif (((tt 3 (decide (((0 + (0 + a0.length)) : Nat) ≤ (0 + a0.length)))) && (tt 1 (decide (((0 + (0 + a0.length)) : Nat) ≤ (0 + a0.length))))) && (tt 2 (decide ((0 + a0.length) * 8 ≤ 140737488355328)))) then some (sec 0 a0 0 (0 + a0.length)) else none)
theorem t38 (l : List Int) : E38 (l, ()) = S38 l := by kernel_rfl
theorem E38_eq {l : List Int} (h : l.length * 8 ≤ 140737488355328) : E38 (l, ()) = some l := by
 rw [t38]
 unfold S38
 have e : sec 0 l 0 (0 + l.length) = l := sec_full (by omega)
 rw [e, decide_eq_true (show (0 + l.length) * 8 ≤ 140737488355328 by omega), decide_eq_true (show 0 + (0 + l.length) ≤ 0 + l.length by omega)]
 rfl
noncomputable def G38 : (List Int × Unit) → Bool := fun x => decide (x.1.length * 8 ≤ 140737488355328)
theorem n38t : fnT C38 Try.f38 (.vsl (.int .i64)) [⟨.slice, none⟩] = some ([] : List Int) := by kernel_rfl
theorem LOK38 : LOK Try.prog C38 0 (bodyF Try.f38) := Lall.LOK rfl (by kernel_rfl) trivial
theorem LOK38t : LOK Try.prog C38 0 (clTail Try.f38.body) := Lall.LOK rfl (by kernel_rfl) trivial
theorem n38 : PureOK Try.prog 38 [⟨.slice, none⟩] ⟨.vsl (.int .i64), []⟩ := PureOK.of1 (T := .vsl (.int .i64)) CxOK38 Try.func38 (LOK.fn LOK38) n38t rfl
theorem p38 : ∀ x, G38 x = true → PureOK Try.prog 38 (mkA [.vsl (.int .i64)] x) ⟨.vsl (.int .i64), F38 x⟩ := by
 rintro ⟨l, u⟩ hk
 have hk := of_decide_eq_true hk
 exact clone_pure (o2 := clOp Try.f38.body 0) (o3 := clOp Try.f38.body 1) (o4 := clOp Try.f38.body 2) (i0 := 0) (i1 := 1) (thn := clThn Try.f38.body) (tail := clTail Try.f38.body) (T := 33) (T' := 33) (eT := 3) CxOK38 Try.func38 (by kernel_rfl)
  ⟨by kernel_rfl, by kernel_rfl, by kernel_rfl⟩ ⟨by kernel_rfl, by kernel_rfl, by kernel_rfl⟩ ⟨by kernel_rfl, by kernel_rfl, by kernel_rfl⟩ (by kernel_rfl) (by kernel_rfl) rfl (fun h => by
   have h : l = [] := h
   subst h; exact n38) LOK38t (E38_eq hk)
theorem df56 : DfText Try.prog Try.f56 108 (dfTail Try.f56.body) :=
 ⟨⟨_, _, _, _, _, _, _, _, _, _, _, _, _, _, rfl, ⟨rfl, rfl, rfl⟩, ⟨rfl, rfl, rfl⟩, ⟨rfl, rfl, rfl⟩, ⟨rfl, rfl, rfl⟩, ⟨rfl, rfl, rfl⟩, ⟨rfl, rfl, rfl⟩, by kernel_rfl, by kernel_rfl, rfl, rfl⟩⟩
@[reducible] def KTA0 : Ty := (.pair (.int .u64) .unit)
@[reducible] def KTA1 : Ty := (.pair (.int .u64) KTA0)
@[reducible] def KTA2 : Ty := (.pair (.int .i64) .unit)
@[reducible] def KTA3 : Ty := (.pair (.int .i64) KTA2)
@[reducible] def KTA4 : Ty := (.pair (.int .i64) KTA3)
@[reducible] def KTA5 : Ty := (.pair (.pair KTA1 KTA1) KTA4)
@[reducible] def KTA6 : Ty := (.pair (.int .i64) KTA5)
@[reducible] def KTA7 : Ty := (.pair (.int .i64) (.pair KTA6 .unit))
@[reducible] def KTA8 : Ty := (.pair (.int .i64) KTA7)
@[reducible] def KTA9 : Ty := (.pair (.vsl (.int .i64)) KTA2)
@[reducible] def KTA10 : Ty := (.pair (.int .i64) KTA9)
@[reducible] def KTA11 : Ty := (.pair (.arr 64 KTA8) KTA10)
@[reducible] def KTA12 : Ty := (.pair (.arr 11 KTA6) KTA11)
@[reducible] def KTA13 : Ty := (.pair (.int .i64) KTA4)
@[reducible] def KTA14 : Ty := (.tup (.int .i64) .tnil)
noncomputable def D_1 : Kn := kOf [(38, sm [.vsl (.int .i64)] (.vsl (.int .i64)) F38 G38)]
theorem D_1OK : KOK Try.prog D_1 := (KOK.cons Try.call38 (SmOK.sm p38) KOK.nil)
noncomputable def P_1 : Nat → Option PSm := pOf []
theorem P_1OK : POK Try.prog P_1 := POK.nil
noncomputable def C_1 : Cx := ⟨true, Try.Θ, KX Try.Θ Try.F D_1 100 10, 100, fun _ => none, P_1⟩
theorem C_1OK : CxOK Try.prog C_1 := ⟨Try.tabOK, KX_ok Try.tabOK Try.FOK D_1OK (by kernel_rfl) 10, by kernel_rfl, P_1OK⟩
noncomputable def E57c : AD [.bool, (.int .i64)] → Option (Int ⊕ Ty.den .tnil) := fun x => fnP C_1 108 Try.f57 .tnil (mkA [.bool, (.int .i64)] x)
noncomputable def m57c : PSm := pm [.bool, (.int .i64)] .tnil 108 (([fun _ => 1, fun _ => 60, fun _ => 61, fun _ => 62, fun _ => 63] : List (AD [.bool, (.int .i64)] → Int)).map fun c => (panQ E57c c, c)) (panV (dflt .tnil) E57c) (panK E57c)
theorem m57cOK : POK1 Try.prog 57 m57c := POK1.pm (ts := [.bool, (.int .i64)]) (T := .tnil) (E := E57c) [fun _ => 1, fun _ => 60, fun _ => 61, fun _ => 62, fun _ => 63] (fnP_E (ts := [.bool, (.int .i64)]) (T := .tnil) (E := E57c) C_1OK Try.func57 (fun c _ => LOK.none rfl 0 c) (fun x => rfl))
noncomputable def D_2 : Kn := kOf [(38, sm [.vsl (.int .i64)] (.vsl (.int .i64)) F38 G38)]
theorem D_2OK : KOK Try.prog D_2 := (KOK.cons Try.call38 (SmOK.sm p38) KOK.nil)
noncomputable def P_2 : Nat → Option PSm := pOf [(57, m57c)]
theorem P_2OK : POK Try.prog P_2 := (POK.cons Try.call57 m57cOK POK.nil)
noncomputable def C_2 : Cx := ⟨true, Try.Θ, KX Try.Θ Try.F D_2 100 10, 100, fun _ => none, P_2⟩
theorem C_2OK : CxOK Try.prog C_2 := ⟨Try.tabOK, KX_ok Try.tabOK Try.FOK D_2OK (by kernel_rfl) 10, by kernel_rfl, P_2OK⟩
noncomputable def E65c : AD [KTA12, (.vsl KTA13), KTA6, (.int .i64)] → Option (Int ⊕ Ty.den .tnil) := fun x => fnP C_2 108 Try.f65 .tnil (mkA [KTA12, (.vsl KTA13), KTA6, (.int .i64)] x)
noncomputable def m65c : PSm := pm [KTA12, (.vsl KTA13), KTA6, (.int .i64)] .tnil 108 (([fun _ => 1, fun _ => 60, fun _ => 61, fun _ => 62, fun _ => 63] : List (AD [KTA12, (.vsl KTA13), KTA6, (.int .i64)] → Int)).map fun c => (panQ E65c c, c)) (panV (dflt .tnil) E65c) (panK E65c)
theorem m65cOK : POK1 Try.prog 65 m65c := POK1.pm (ts := [KTA12, (.vsl KTA13), KTA6, (.int .i64)]) (T := .tnil) (E := E65c) [fun _ => 1, fun _ => 60, fun _ => 61, fun _ => 62, fun _ => 63] (fnP_E (ts := [KTA12, (.vsl KTA13), KTA6, (.int .i64)]) (T := .tnil) (E := E65c) C_2OK Try.func65 (fun c _ => LOK.none rfl 0 c) (fun x => rfl))
noncomputable def E66c : AD [(.pair KTA1 KTA1), (.int .i64)] → Option (Int ⊕ Ty.den (.int .i64)) := fun x => fnP C_2 108 Try.f66 (.int .i64) (mkA [(.pair KTA1 KTA1), (.int .i64)] x)
noncomputable def m66c : PSm := pm [(.pair KTA1 KTA1), (.int .i64)] (.int .i64) 108 (([fun _ => 1, fun _ => 60, fun _ => 61, fun _ => 62, fun _ => 63] : List (AD [(.pair KTA1 KTA1), (.int .i64)] → Int)).map fun c => (panQ E66c c, c)) (panV (dflt (.int .i64)) E66c) (panK E66c)
theorem m66cOK : POK1 Try.prog 66 m66c := POK1.pm (ts := [(.pair KTA1 KTA1), (.int .i64)]) (T := (.int .i64)) (E := E66c) [fun _ => 1, fun _ => 60, fun _ => 61, fun _ => 62, fun _ => 63] (fnP_E (ts := [(.pair KTA1 KTA1), (.int .i64)]) (T := (.int .i64)) (E := E66c) C_2OK Try.func66 (fun c _ => LOK.none rfl 0 c) (fun x => rfl))
noncomputable def E67c : AD [KTA12, (.int .i64)] → Option (Int ⊕ Ty.den .tnil) := fun x => fnP C_2 108 Try.f67 .tnil (mkA [KTA12, (.int .i64)] x)
noncomputable def m67c : PSm := pm [KTA12, (.int .i64)] .tnil 108 (([fun _ => 1, fun _ => 60, fun _ => 61, fun _ => 62, fun _ => 63] : List (AD [KTA12, (.int .i64)] → Int)).map fun c => (panQ E67c c, c)) (panV (dflt .tnil) E67c) (panK E67c)
theorem m67cOK : POK1 Try.prog 67 m67c := POK1.pm (ts := [KTA12, (.int .i64)]) (T := .tnil) (E := E67c) [fun _ => 1, fun _ => 60, fun _ => 61, fun _ => 62, fun _ => 63] (fnP_E (ts := [KTA12, (.int .i64)]) (T := .tnil) (E := E67c) C_2OK Try.func67 (fun c _ => LOK.none rfl 0 c) (fun x => rfl))
noncomputable def D_3 : Kn := kOf [(38, sm [.vsl (.int .i64)] (.vsl (.int .i64)) F38 G38)]
theorem D_3OK : KOK Try.prog D_3 := (KOK.cons Try.call38 (SmOK.sm p38) KOK.nil)
noncomputable def P_3 : Nat → Option PSm := pOf [(57, m57c), (65, m65c), (66, m66c), (67, m67c)]
theorem P_3OK : POK Try.prog P_3 := (POK.cons Try.call57 m57cOK (POK.cons Try.call65 m65cOK (POK.cons Try.call66 m66cOK (POK.cons Try.call67 m67cOK POK.nil))))
noncomputable def C_3 : Cx := ⟨true, Try.Θ, KX Try.Θ Try.F D_3 100 10, 100, fun _ => none, P_3⟩
theorem C_3OK : CxOK Try.prog C_3 := ⟨Try.tabOK, KX_ok Try.tabOK Try.FOK D_3OK (by kernel_rfl) 10, by kernel_rfl, P_3OK⟩
noncomputable def E52c : AD [KTA12, (.vsl KTA13), KTA6, (.int .i64), .bool] → Option (Ty.den (.int .i64)) := fun x => fnD C_3 56 (dfTail Try.f56.body) 108 3 Try.f52 (.int .i64) (mkA [KTA12, (.vsl KTA13), KTA6, (.int .i64), .bool] x)
theorem p52c : ∀ x, (E52c x).isSome = true → PureOK Try.prog 52 (mkA [KTA12, (.vsl KTA13), KTA6, (.int .i64), .bool] x) ⟨(.int .i64), (E52c x).getD (dflt (.int .i64))⟩ := PureOK.ofD (ts := [KTA12, (.vsl KTA13), KTA6, (.int .i64), .bool]) (T := (.int .i64)) (S := E52c) (kp := 3) C_3OK Try.func52 Try.func56 Try.call56 df56 (by kernel_rfl) (fun _ => LOK.void (fun _ => rfl)) (fun x => rfl)
noncomputable def E45c : AD [KTA12, (.int .i64), (.int .i64), KTA6] → Option (Ty.den (.tup KTA12 KTA14)) := fun x => fnD C_3 56 (dfTail Try.f56.body) 108 4 Try.f45 (.tup KTA12 KTA14) (mkA [KTA12, (.int .i64), (.int .i64), KTA6] x)
theorem p45c : ∀ x, (E45c x).isSome = true → PureOK Try.prog 45 (mkA [KTA12, (.int .i64), (.int .i64), KTA6] x) ⟨(.tup KTA12 KTA14), (E45c x).getD (dflt (.tup KTA12 KTA14))⟩ := PureOK.ofD (ts := [KTA12, (.int .i64), (.int .i64), KTA6]) (T := (.tup KTA12 KTA14)) (S := E45c) (kp := 4) C_3OK Try.func45 Try.func56 Try.call56 df56 (by kernel_rfl) (fun _ => LOK.void (fun _ => rfl)) (fun x => rfl)
noncomputable def D_4 : Kn := kOf [(38, sm [.vsl (.int .i64)] (.vsl (.int .i64)) F38 G38), (52, sm [KTA12, (.vsl KTA13), KTA6, (.int .i64), .bool] (.int .i64) (fun x => (E52c x).getD (dflt (.int .i64))) (fun x => (E52c x).isSome)), (45, sm [KTA12, (.int .i64), (.int .i64), KTA6] (.tup KTA12 KTA14) (fun x => (E45c x).getD (dflt (.tup KTA12 KTA14))) (fun x => (E45c x).isSome))]
theorem D_4OK : KOK Try.prog D_4 := (KOK.cons Try.call38 (SmOK.sm p38) (KOK.cons Try.call52 (SmOK.sm p52c) (KOK.cons Try.call45 (SmOK.sm p45c) KOK.nil)))
noncomputable def P_4 : Nat → Option PSm := pOf [(57, m57c), (65, m65c), (66, m66c), (67, m67c)]
theorem P_4OK : POK Try.prog P_4 := (POK.cons Try.call57 m57cOK (POK.cons Try.call65 m65cOK (POK.cons Try.call66 m66cOK (POK.cons Try.call67 m67cOK POK.nil))))
noncomputable def C_4 : Cx := ⟨true, Try.Θ, KX Try.Θ Try.F D_4 100 10, 100, fun _ => none, P_4⟩
theorem C_4OK : CxOK Try.prog C_4 := ⟨Try.tabOK, KX_ok Try.tabOK Try.FOK D_4OK (by kernel_rfl) 10, by kernel_rfl, P_4OK⟩
noncomputable def F8 : Unit → Bool := fun _ => true
noncomputable def G8 : Unit → Bool := fun _ => true
theorem t8 : fnT C_4 Try.f8 .bool [] = some true := by kernel_rfl
theorem p8 : ∀ x, G8 x = true → PureOK Try.prog 8 (mkA [] x) ⟨.bool, F8 x⟩ := fun x _ => fnT_ok C_4OK Try.func8 (fun c _ => LOK.none rfl 0 c) t8
end Go.Proofs
