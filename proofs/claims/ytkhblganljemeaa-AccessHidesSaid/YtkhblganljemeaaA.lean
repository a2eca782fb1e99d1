import Derived.Test.YtkhblganljemeaaT
import Derived.Test.YtkhblganljemeaaGd
namespace Go.Proofs
open Go.GX
set_option linter.unusedVariables false
set_option maxRecDepth 100000
/-! ## slices.Clone -/
noncomputable def F46 : (List Int × Unit) → List Int := fun x => x.1
noncomputable def C46 : Cx := CxL Try.Θ (kOf []) (lOf [])
theorem CxOK46 : CxOK Try.prog C46 := ⟨Try.tabOK, KOK.nil, by kernel_rfl, POK.none⟩
noncomputable def E46 : (List Int × Unit) → Option (List Int) := fun x => codeT C46 (clTail Try.f46.body) ⟨putArgs [⟨.vsl (.int .i64), x.1⟩] 0 .lf, 8, [], 0, true⟩ (endK C46.Θ Try.f46 (.vsl (.int .i64)))
noncomputable def S46 (a0 : List Int) : Option (List Int) :=
  (bif (((tt 3 (decide (((0 + (0 + a0.length)) : Nat) ≤ (0 + a0.length)))) && (tt 1 (decide (((0 + (0 + a0.length)) : Nat) ≤ (0 + a0.length))))) && (tt 2 (decide ((0 + a0.length) * 8 ≤ 140737488355328)))) then some (sec 0 a0 0 (0 + a0.length)) else none)
theorem t46 (l : List Int) : E46 (l, ()) = S46 l := by kernel_rfl
theorem E46_eq {l : List Int} (h : l.length * 8 ≤ 140737488355328) : E46 (l, ()) = some l := by
  rw [t46]
  unfold S46
  have e : sec 0 l 0 (0 + l.length) = l := sec_full (by omega)
  rw [e, decide_eq_true (show (0 + l.length) * 8 ≤ 140737488355328 by omega), decide_eq_true (show 0 + (0 + l.length) ≤ 0 + l.length by omega)]
  rfl
noncomputable def G46 : (List Int × Unit) → Bool := fun x => decide (x.1.length * 8 ≤ 140737488355328)
theorem n46t : fnT C46 Try.f46 (.vsl (.int .i64)) [⟨.slice, none⟩] = some ([] : List Int) := by kernel_rfl
theorem LOK46 : LOK Try.prog C46 0 (bodyF Try.f46) := Lall.LOK rfl (by kernel_rfl) trivial
theorem LOK46t : LOK Try.prog C46 0 (clTail Try.f46.body) := Lall.LOK rfl (by kernel_rfl) trivial
theorem n46 : PureOK Try.prog 46 [⟨.slice, none⟩] ⟨.vsl (.int .i64), []⟩ := PureOK.of1 (T := .vsl (.int .i64)) CxOK46 Try.func46 (LOK.fn LOK46) n46t rfl
theorem p46 : ∀ x, G46 x = true → PureOK Try.prog 46 (mkA [.vsl (.int .i64)] x) ⟨.vsl (.int .i64), F46 x⟩ := by
  rintro ⟨l, u⟩ hk
  have hk := of_decide_eq_true hk
  exact clone_pure (o2 := clOp Try.f46.body 0) (o3 := clOp Try.f46.body 1) (o4 := clOp Try.f46.body 2) (i0 := 0) (i1 := 1) (thn := clThn Try.f46.body) (tail := clTail Try.f46.body) (T := 33) (T' := 33) (eT := 3) CxOK46 Try.func46 (by kernel_rfl)
    ⟨by kernel_rfl, by kernel_rfl, by kernel_rfl⟩ ⟨by kernel_rfl, by kernel_rfl, by kernel_rfl⟩ ⟨by kernel_rfl, by kernel_rfl, by kernel_rfl⟩ (by kernel_rfl) (by kernel_rfl) rfl (fun h => by
      have h : l = [] := h
      subst h; exact n46) LOK46t (E46_eq hk)
/-! ## What catches -/
theorem df20 : DfText Try.prog Try.f20 81 (dfTail Try.f20.body) :=
  ⟨⟨_, _, _, _, _, _, _, _, _, _, _, _, _, _, rfl, ⟨rfl, rfl, rfl⟩, ⟨rfl, rfl, rfl⟩, ⟨rfl, rfl, rfl⟩, ⟨rfl, rfl, rfl⟩, ⟨rfl, rfl, rfl⟩, ⟨rfl, rfl, rfl⟩, by kernel_rfl, by kernel_rfl, rfl, rfl⟩⟩
@[reducible] def KTA0 : Ty := (.pair (.int .u64) .unit)
@[reducible] def KTA1 : Ty := (.pair (.int .u64) KTA0)
@[reducible] def KTA2 : Ty := (.pair (.int .i64) .unit)
@[reducible] def KTA3 : Ty := (.pair (.int .i64) KTA2)
@[reducible] def KTA4 : Ty := (.pair (.int .i64) KTA3)
@[reducible] def KTA5 : Ty := (.pair (.pair KTA1 KTA1) KTA4)
@[reducible] def KTA6 : Ty := (.pair (.int .i64) KTA5)
@[reducible] def KTA7 : Ty := (.pair (.int .i64) (.pair KTA6 .unit))
@[reducible] def KTA8 : Ty := (.pair (.int .i64) KTA7)
@[reducible] def KTA9 : Ty := (.pair (.vsl (.int .i64)) KTA2)
@[reducible] def KTA10 : Ty := (.pair (.int .i64) KTA9)
@[reducible] def KTA11 : Ty := (.pair (.arr 64 KTA8) KTA10)
@[reducible] def KTA12 : Ty := (.pair (.arr 11 KTA6) KTA11)
@[reducible] def KTA13 : Ty := (.pair (.int .i64) KTA4)
@[reducible] def KTA14 : Ty := (.tup (.int .i64) .tnil)
@[reducible] def KTA15 : Ty := (.pair (.int .i64) KTA13)
/-! ## Closed runs -/
noncomputable def DA : Kn := kOf [(46, sm [.vsl (.int .i64)] (.vsl (.int .i64)) F46 G46)]
theorem DAOK : KOK Try.prog DA := KOK.cons Try.call46 (SmOK.sm p46) KOK.nil
noncomputable def D_1 : Kn := kOf [(46, sm [.vsl (.int .i64)] (.vsl (.int .i64)) F46 G46)]
theorem D_1OK : KOK Try.prog D_1 := (KOK.cons Try.call46 (SmOK.sm p46) KOK.nil)
noncomputable def P_1 : Nat → Option PSm := pOf []
theorem P_1OK : POK Try.prog P_1 := POK.nil
noncomputable def C_1 : Cx := ⟨true, Try.Θ, KX Try.Θ Try.F D_1 100 10, 100, fun _ => none, P_1⟩
theorem C_1OK : CxOK Try.prog C_1 := ⟨Try.tabOK, KX_ok Try.tabOK Try.FOK D_1OK (by kernel_rfl) 10, by kernel_rfl, P_1OK⟩
noncomputable def E21c : AD [.bool, (.int .i64)] → Option (Int ⊕ Ty.den .tnil) := fun x => fnP C_1 81 Try.f21 .tnil (mkA [.bool, (.int .i64)] x)
noncomputable def m21c : PSm := pm [.bool, (.int .i64)] .tnil 81 (([fun _ => 1, fun _ => 60, fun _ => 61, fun _ => 62, fun _ => 63] : List (AD [.bool, (.int .i64)] → Int)).map fun c => (panQ E21c c, c)) (panV (dflt .tnil) E21c) (panK E21c)
theorem m21cOK : POK1 Try.prog 21 m21c := POK1.pm (ts := [.bool, (.int .i64)]) (T := .tnil) (E := E21c) [fun _ => 1, fun _ => 60, fun _ => 61, fun _ => 62, fun _ => 63] (fnP_E (ts := [.bool, (.int .i64)]) (T := .tnil) (E := E21c) C_1OK Try.func21 (fun c _ => LOK.none rfl 0 c) (fun x => rfl))
noncomputable def D_2 : Kn := kOf [(46, sm [.vsl (.int .i64)] (.vsl (.int .i64)) F46 G46)]
theorem D_2OK : KOK Try.prog D_2 := (KOK.cons Try.call46 (SmOK.sm p46) KOK.nil)
noncomputable def P_2 : Nat → Option PSm := pOf [(21, m21c)]
theorem P_2OK : POK Try.prog P_2 := (POK.cons Try.call21 m21cOK POK.nil)
noncomputable def C_2 : Cx := ⟨true, Try.Θ, KX Try.Θ Try.F D_2 100 10, 100, fun _ => none, P_2⟩
theorem C_2OK : CxOK Try.prog C_2 := ⟨Try.tabOK, KX_ok Try.tabOK Try.FOK D_2OK (by kernel_rfl) 10, by kernel_rfl, P_2OK⟩
noncomputable def E35c : AD [KTA6] → Option (Int ⊕ Ty.den .tnil) := fun x => fnP C_2 81 Try.f35 .tnil (mkA [KTA6] x)
noncomputable def m35c : PSm := pm [KTA6] .tnil 81 (([fun _ => 1, fun _ => 60, fun _ => 61, fun _ => 62, fun _ => 63] : List (AD [KTA6] → Int)).map fun c => (panQ E35c c, c)) (panV (dflt .tnil) E35c) (panK E35c)
theorem m35cOK : POK1 Try.prog 35 m35c := POK1.pm (ts := [KTA6]) (T := .tnil) (E := E35c) [fun _ => 1, fun _ => 60, fun _ => 61, fun _ => 62, fun _ => 63] (fnP_E (ts := [KTA6]) (T := .tnil) (E := E35c) C_2OK Try.func35 (fun c _ => LOK.none rfl 0 c) (fun x => rfl))
noncomputable def E36c : AD [KTA6] → Option (Int ⊕ Ty.den .tnil) := fun x => fnP C_2 81 Try.f36 .tnil (mkA [KTA6] x)
noncomputable def m36c : PSm := pm [KTA6] .tnil 81 (([fun _ => 1, fun _ => 60, fun _ => 61, fun _ => 62, fun _ => 63] : List (AD [KTA6] → Int)).map fun c => (panQ E36c c, c)) (panV (dflt .tnil) E36c) (panK E36c)
theorem m36cOK : POK1 Try.prog 36 m36c := POK1.pm (ts := [KTA6]) (T := .tnil) (E := E36c) [fun _ => 1, fun _ => 60, fun _ => 61, fun _ => 62, fun _ => 63] (fnP_E (ts := [KTA6]) (T := .tnil) (E := E36c) C_2OK Try.func36 (fun c _ => LOK.none rfl 0 c) (fun x => rfl))
noncomputable def E37c : AD [KTA6, (.int .i64)] → Option (Int ⊕ Ty.den KTA6) := fun x => fnP C_2 81 Try.f37 KTA6 (mkA [KTA6, (.int .i64)] x)
noncomputable def m37c : PSm := pm [KTA6, (.int .i64)] KTA6 81 (([fun _ => 1, fun _ => 60, fun _ => 61, fun _ => 62, fun _ => 63] : List (AD [KTA6, (.int .i64)] → Int)).map fun c => (panQ E37c c, c)) (panV (dflt KTA6) E37c) (panK E37c)
theorem m37cOK : POK1 Try.prog 37 m37c := POK1.pm (ts := [KTA6, (.int .i64)]) (T := KTA6) (E := E37c) [fun _ => 1, fun _ => 60, fun _ => 61, fun _ => 62, fun _ => 63] (fnP_E (ts := [KTA6, (.int .i64)]) (T := KTA6) (E := E37c) C_2OK Try.func37 (fun c _ => LOK.none rfl 0 c) (fun x => rfl))
noncomputable def E39c : AD [(.pair KTA1 KTA1), (.int .i64)] → Option (Int ⊕ Ty.den (.int .i64)) := fun x => fnP C_2 81 Try.f39 (.int .i64) (mkA [(.pair KTA1 KTA1), (.int .i64)] x)
noncomputable def m39c : PSm := pm [(.pair KTA1 KTA1), (.int .i64)] (.int .i64) 81 (([fun _ => 1, fun _ => 60, fun _ => 61, fun _ => 62, fun _ => 63] : List (AD [(.pair KTA1 KTA1), (.int .i64)] → Int)).map fun c => (panQ E39c c, c)) (panV (dflt (.int .i64)) E39c) (panK E39c)
theorem m39cOK : POK1 Try.prog 39 m39c := POK1.pm (ts := [(.pair KTA1 KTA1), (.int .i64)]) (T := (.int .i64)) (E := E39c) [fun _ => 1, fun _ => 60, fun _ => 61, fun _ => 62, fun _ => 63] (fnP_E (ts := [(.pair KTA1 KTA1), (.int .i64)]) (T := (.int .i64)) (E := E39c) C_2OK Try.func39 (fun c _ => LOK.none rfl 0 c) (fun x => rfl))
noncomputable def E40c : AD [KTA12, (.vsl KTA13), KTA6, (.int .i64)] → Option (Int ⊕ Ty.den .tnil) := fun x => fnP C_2 81 Try.f40 .tnil (mkA [KTA12, (.vsl KTA13), KTA6, (.int .i64)] x)
noncomputable def m40c : PSm := pm [KTA12, (.vsl KTA13), KTA6, (.int .i64)] .tnil 81 (([fun _ => 1, fun _ => 60, fun _ => 61, fun _ => 62, fun _ => 63] : List (AD [KTA12, (.vsl KTA13), KTA6, (.int .i64)] → Int)).map fun c => (panQ E40c c, c)) (panV (dflt .tnil) E40c) (panK E40c)
theorem m40cOK : POK1 Try.prog 40 m40c := POK1.pm (ts := [KTA12, (.vsl KTA13), KTA6, (.int .i64)]) (T := .tnil) (E := E40c) [fun _ => 1, fun _ => 60, fun _ => 61, fun _ => 62, fun _ => 63] (fnP_E (ts := [KTA12, (.vsl KTA13), KTA6, (.int .i64)]) (T := .tnil) (E := E40c) C_2OK Try.func40 (fun c _ => LOK.none rfl 0 c) (fun x => rfl))
noncomputable def E41c : AD [(.int .i64), (.int .i64), .bool] → Option (Int ⊕ Ty.den KTA6) := fun x => fnP C_2 81 Try.f41 KTA6 (mkA [(.int .i64), (.int .i64), .bool] x)
noncomputable def m41c : PSm := pm [(.int .i64), (.int .i64), .bool] KTA6 81 (([fun _ => 1, fun _ => 60, fun _ => 61, fun _ => 62, fun _ => 63] : List (AD [(.int .i64), (.int .i64), .bool] → Int)).map fun c => (panQ E41c c, c)) (panV (dflt KTA6) E41c) (panK E41c)
theorem m41cOK : POK1 Try.prog 41 m41c := POK1.pm (ts := [(.int .i64), (.int .i64), .bool]) (T := KTA6) (E := E41c) [fun _ => 1, fun _ => 60, fun _ => 61, fun _ => 62, fun _ => 63] (fnP_E (ts := [(.int .i64), (.int .i64), .bool]) (T := KTA6) (E := E41c) C_2OK Try.func41 (fun c _ => LOK.none rfl 0 c) (fun x => rfl))
noncomputable def E24c : AD [KTA12, (.int .i64)] → Option (Int ⊕ Ty.den .tnil) := fun x => fnP C_2 81 Try.f24 .tnil (mkA [KTA12, (.int .i64)] x)
noncomputable def m24c : PSm := pm [KTA12, (.int .i64)] .tnil 81 (([fun _ => 1, fun _ => 60, fun _ => 61, fun _ => 62, fun _ => 63] : List (AD [KTA12, (.int .i64)] → Int)).map fun c => (panQ E24c c, c)) (panV (dflt .tnil) E24c) (panK E24c)
theorem m24cOK : POK1 Try.prog 24 m24c := POK1.pm (ts := [KTA12, (.int .i64)]) (T := .tnil) (E := E24c) [fun _ => 1, fun _ => 60, fun _ => 61, fun _ => 62, fun _ => 63] (fnP_E (ts := [KTA12, (.int .i64)]) (T := .tnil) (E := E24c) C_2OK Try.func24 (fun c _ => LOK.none rfl 0 c) (fun x => rfl))
noncomputable def D_3 : Kn := kOf [(46, sm [.vsl (.int .i64)] (.vsl (.int .i64)) F46 G46)]
theorem D_3OK : KOK Try.prog D_3 := (KOK.cons Try.call46 (SmOK.sm p46) KOK.nil)
noncomputable def P_3 : Nat → Option PSm := pOf [(21, m21c), (35, m35c), (36, m36c), (37, m37c), (39, m39c), (40, m40c), (41, m41c), (24, m24c)]
theorem P_3OK : POK Try.prog P_3 := (POK.cons Try.call21 m21cOK (POK.cons Try.call35 m35cOK (POK.cons Try.call36 m36cOK (POK.cons Try.call37 m37cOK (POK.cons Try.call39 m39cOK (POK.cons Try.call40 m40cOK (POK.cons Try.call41 m41cOK (POK.cons Try.call24 m24cOK POK.nil))))))))
noncomputable def C_3 : Cx := ⟨true, Try.Θ, KX Try.Θ Try.F D_3 100 10, 100, fun _ => none, P_3⟩
theorem C_3OK : CxOK Try.prog C_3 := ⟨Try.tabOK, KX_ok Try.tabOK Try.FOK D_3OK (by kernel_rfl) 10, by kernel_rfl, P_3OK⟩
noncomputable def E9c : AD [KTA12, (.int .i64), (.int .i64)] → Option (Ty.den (.tup KTA6 KTA14)) := fun x => fnD C_3 20 (dfTail Try.f20.body) 81 3 Try.f9 (.tup KTA6 KTA14) (mkA [KTA12, (.int .i64), (.int .i64)] x)
theorem p9c : ∀ x, (E9c x).isSome = true → PureOK Try.prog 9 (mkA [KTA12, (.int .i64), (.int .i64)] x) ⟨(.tup KTA6 KTA14), (E9c x).getD (dflt (.tup KTA6 KTA14))⟩ := PureOK.ofD (ts := [KTA12, (.int .i64), (.int .i64)]) (T := (.tup KTA6 KTA14)) (S := E9c) (kp := 3) C_3OK Try.func9 Try.func20 Try.call20 df20 (by kernel_rfl) (fun _ => LOK.void (fun _ => rfl)) (fun x => rfl)
noncomputable def E11c : AD [KTA12, (.int .i64), (.int .i64), KTA6] → Option (Ty.den (.tup KTA12 KTA14)) := fun x => fnD C_3 20 (dfTail Try.f20.body) 81 4 Try.f11 (.tup KTA12 KTA14) (mkA [KTA12, (.int .i64), (.int .i64), KTA6] x)
theorem p11c : ∀ x, (E11c x).isSome = true → PureOK Try.prog 11 (mkA [KTA12, (.int .i64), (.int .i64), KTA6] x) ⟨(.tup KTA12 KTA14), (E11c x).getD (dflt (.tup KTA12 KTA14))⟩ := PureOK.ofD (ts := [KTA12, (.int .i64), (.int .i64), KTA6]) (T := (.tup KTA12 KTA14)) (S := E11c) (kp := 4) C_3OK Try.func11 Try.func20 Try.call20 df20 (by kernel_rfl) (fun _ => LOK.void (fun _ => rfl)) (fun x => rfl)
noncomputable def D_4 : Kn := kOf [(46, sm [.vsl (.int .i64)] (.vsl (.int .i64)) F46 G46), (9, sm [KTA12, (.int .i64), (.int .i64)] (.tup KTA6 KTA14) (fun x => (E9c x).getD (dflt (.tup KTA6 KTA14))) (fun x => (E9c x).isSome)), (11, sm [KTA12, (.int .i64), (.int .i64), KTA6] (.tup KTA12 KTA14) (fun x => (E11c x).getD (dflt (.tup KTA12 KTA14))) (fun x => (E11c x).isSome))]
theorem D_4OK : KOK Try.prog D_4 := (KOK.cons Try.call46 (SmOK.sm p46) (KOK.cons Try.call9 (SmOK.sm p9c) (KOK.cons Try.call11 (SmOK.sm p11c) KOK.nil)))
noncomputable def P_4 : Nat → Option PSm := pOf [(21, m21c), (35, m35c), (36, m36c), (37, m37c), (39, m39c), (40, m40c), (41, m41c), (24, m24c)]
theorem P_4OK : POK Try.prog P_4 := (POK.cons Try.call21 m21cOK (POK.cons Try.call35 m35cOK (POK.cons Try.call36 m36cOK (POK.cons Try.call37 m37cOK (POK.cons Try.call39 m39cOK (POK.cons Try.call40 m40cOK (POK.cons Try.call41 m41cOK (POK.cons Try.call24 m24cOK POK.nil))))))))
noncomputable def C_4 : Cx := ⟨true, Try.Θ, KX Try.Θ Try.F D_4 100 10, 100, fun _ => none, P_4⟩
theorem C_4OK : CxOK Try.prog C_4 := ⟨Try.tabOK, KX_ok Try.tabOK Try.FOK D_4OK (by kernel_rfl) 10, by kernel_rfl, P_4OK⟩
noncomputable def E18c : AD [KTA12, (.vsl KTA13), KTA15] → Option (Ty.den (.tup KTA12 KTA14)) := fun x => fnD C_4 20 (dfTail Try.f20.body) 81 4 Try.f18 (.tup KTA12 KTA14) (mkA [KTA12, (.vsl KTA13), KTA15] x)
theorem p18c : ∀ x, (E18c x).isSome = true → PureOK Try.prog 18 (mkA [KTA12, (.vsl KTA13), KTA15] x) ⟨(.tup KTA12 KTA14), (E18c x).getD (dflt (.tup KTA12 KTA14))⟩ := PureOK.ofD (ts := [KTA12, (.vsl KTA13), KTA15]) (T := (.tup KTA12 KTA14)) (S := E18c) (kp := 4) C_4OK Try.func18 Try.func20 Try.call20 df20 (by kernel_rfl) (fun _ => LOK.void (fun _ => rfl)) (fun x => rfl)
noncomputable def E19c : AD [KTA12, (.vsl KTA13), KTA15] → Option (Ty.den (.tup KTA12 KTA14)) := fun x => fnD C_4 20 (dfTail Try.f20.body) 81 4 Try.f19 (.tup KTA12 KTA14) (mkA [KTA12, (.vsl KTA13), KTA15] x)
theorem p19c : ∀ x, (E19c x).isSome = true → PureOK Try.prog 19 (mkA [KTA12, (.vsl KTA13), KTA15] x) ⟨(.tup KTA12 KTA14), (E19c x).getD (dflt (.tup KTA12 KTA14))⟩ := PureOK.ofD (ts := [KTA12, (.vsl KTA13), KTA15]) (T := (.tup KTA12 KTA14)) (S := E19c) (kp := 4) C_4OK Try.func19 Try.func20 Try.call20 df20 (by kernel_rfl) (fun _ => LOK.void (fun _ => rfl)) (fun x => rfl)
noncomputable def D_5 : Kn := kOf [(46, sm [.vsl (.int .i64)] (.vsl (.int .i64)) F46 G46), (9, sm [KTA12, (.int .i64), (.int .i64)] (.tup KTA6 KTA14) (fun x => (E9c x).getD (dflt (.tup KTA6 KTA14))) (fun x => (E9c x).isSome)), (11, sm [KTA12, (.int .i64), (.int .i64), KTA6] (.tup KTA12 KTA14) (fun x => (E11c x).getD (dflt (.tup KTA12 KTA14))) (fun x => (E11c x).isSome)), (18, sm [KTA12, (.vsl KTA13), KTA15] (.tup KTA12 KTA14) (fun x => (E18c x).getD (dflt (.tup KTA12 KTA14))) (fun x => (E18c x).isSome)), (19, sm [KTA12, (.vsl KTA13), KTA15] (.tup KTA12 KTA14) (fun x => (E19c x).getD (dflt (.tup KTA12 KTA14))) (fun x => (E19c x).isSome))]
theorem D_5OK : KOK Try.prog D_5 := (KOK.cons Try.call46 (SmOK.sm p46) (KOK.cons Try.call9 (SmOK.sm p9c) (KOK.cons Try.call11 (SmOK.sm p11c) (KOK.cons Try.call18 (SmOK.sm p18c) (KOK.cons Try.call19 (SmOK.sm p19c) KOK.nil)))))
noncomputable def P_5 : Nat → Option PSm := pOf [(21, m21c), (35, m35c), (36, m36c), (37, m37c), (39, m39c), (40, m40c), (41, m41c), (24, m24c)]
theorem P_5OK : POK Try.prog P_5 := (POK.cons Try.call21 m21cOK (POK.cons Try.call35 m35cOK (POK.cons Try.call36 m36cOK (POK.cons Try.call37 m37cOK (POK.cons Try.call39 m39cOK (POK.cons Try.call40 m40cOK (POK.cons Try.call41 m41cOK (POK.cons Try.call24 m24cOK POK.nil))))))))
noncomputable def C_5 : Cx := ⟨true, Try.Θ, KX Try.Θ Try.F D_5 100 10, 100, fun _ => none, P_5⟩
theorem C_5OK : CxOK Try.prog C_5 := ⟨Try.tabOK, KX_ok Try.tabOK Try.FOK D_5OK (by kernel_rfl) 10, by kernel_rfl, P_5OK⟩
/-! ## What the law's examples say -/
noncomputable def F8 : Unit → Bool := fun _ => true
noncomputable def G8 : Unit → Bool := fun _ => true
theorem t8 : fnT C_5 Try.f8 .bool [] = some true := by kernel_rfl
theorem p8 : ∀ x, G8 x = true → PureOK Try.prog 8 (mkA [] x) ⟨.bool, F8 x⟩ := fun x _ => fnT_ok C_5OK Try.func8 (fun c _ => LOK.none rfl 0 c) t8
end Go.Proofs
