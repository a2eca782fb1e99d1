import Derived.Test.YtibiflonpfehiaaB
import Derived.Test.YtibiflonpfehiaaGc
namespace Go.Proofs
open Go.GX
set_option linter.unusedVariables false
set_option maxRecDepth 100000

noncomputable def F12 : Unit → Bool := fun _ => true
noncomputable def G12 : Unit → Bool := fun _ => true
theorem t12 : fnT ⟨true, Try.Θ, KX Try.Θ Try.F (fun _ => none) 100 10, 100, fun _ => none⟩ Try.f12 .bool [] = some true := by kernel_rfl
theorem p12 : ∀ x, G12 x = true → PureOK Try.prog 12 (mkA [] x) ⟨.bool, F12 x⟩ := fun x _ => fnT_pure Try.tabOK (KX_ok Try.tabOK Try.FOK KOK.none (by kernel_rfl) 10) (by kernel_rfl) Try.func12 t12
noncomputable def kn23 : Kn := kOf []
theorem knOK23 : KOK Try.prog kn23 := KOK.nil
noncomputable def C23 : Cx := CxL Try.Θ kn23 (lOf [])
theorem CxOK23 : CxOK Try.prog C23 := ⟨Try.tabOK, knOK23, by kernel_rfl⟩
theorem LOK23 : LOK Try.prog C23 0 (bodyF Try.f23) := (Lall.LOK rfl (by kernel_rfl) trivial)
noncomputable def E23 : ((Int × (Int × KD0)) × Unit) → Option Bool := fun x => S23   x.1
noncomputable def F23 : ((Int × (Int × KD0)) × Unit) → Bool := fun x => (E23 x).getD (dflt .bool)
noncomputable def G23 : ((Int × (Int × KD0)) × Unit) → Bool := fun x => (E23 x).isSome
theorem p23 : ∀ x, G23 x = true → PureOK Try.prog 23 (mkA [KT4] x) ⟨.bool, F23 x⟩ :=
  PureOK.ofS (ts := [KT4]) (T := .bool) (S := E23) CxOK23 Try.func23 (LOK.fn LOK23) (fun x => t23   x.1)
noncomputable def kn27 : Kn := kOf []
theorem knOK27 : KOK Try.prog kn27 := KOK.nil
noncomputable def C27 : Cx := CxL Try.Θ kn27 (lOf [])
theorem CxOK27 : CxOK Try.prog C27 := ⟨Try.tabOK, knOK27, by kernel_rfl⟩
theorem LOK27 : LOK Try.prog C27 0 (bodyF Try.f27) := (Lall.LOK rfl (by kernel_rfl) trivial)
noncomputable def E27 : ((Int × (Int × KD0)) × Unit) → Option Bool := fun x => S27   x.1
noncomputable def F27 : ((Int × (Int × KD0)) × Unit) → Bool := fun x => (E27 x).getD (dflt .bool)
noncomputable def G27 : ((Int × (Int × KD0)) × Unit) → Bool := fun x => (E27 x).isSome
theorem p27 : ∀ x, G27 x = true → PureOK Try.prog 27 (mkA [KT4] x) ⟨.bool, F27 x⟩ :=
  PureOK.ofS (ts := [KT4]) (T := .bool) (S := E27) CxOK27 Try.func27 (LOK.fn LOK27) (fun x => t27   x.1)
noncomputable def kn28 : Kn := kOf []
theorem knOK28 : KOK Try.prog kn28 := KOK.nil
noncomputable def C28 : Cx := CxL Try.Θ kn28 (lOf [])
theorem CxOK28 : CxOK Try.prog C28 := ⟨Try.tabOK, knOK28, by kernel_rfl⟩
theorem LOK28 : LOK Try.prog C28 0 (bodyF Try.f28) := (Lall.LOK rfl (by kernel_rfl) trivial)
noncomputable def E28 : ((Int × (Int × KD0)) × Unit) → Option Int := fun x => S28   x.1
noncomputable def F28 : ((Int × (Int × KD0)) × Unit) → Int := fun x => (E28 x).getD (dflt (.int .i64))
noncomputable def G28 : ((Int × (Int × KD0)) × Unit) → Bool := fun x => (E28 x).isSome
theorem p28 : ∀ x, G28 x = true → PureOK Try.prog 28 (mkA [KT4] x) ⟨(.int .i64), F28 x⟩ :=
  PureOK.ofS (ts := [KT4]) (T := (.int .i64)) (S := E28) CxOK28 Try.func28 (LOK.fn LOK28) (fun x => t28   x.1)
noncomputable def kn32 : Kn := kOf []
theorem knOK32 : KOK Try.prog kn32 := KOK.nil
noncomputable def C32 : Cx := CxL Try.Θ kn32 (lOf [])
theorem CxOK32 : CxOK Try.prog C32 := ⟨Try.tabOK, knOK32, by kernel_rfl⟩
theorem LOK32 : LOK Try.prog C32 0 (bodyF Try.f32) := (Lall.LOK rfl (by kernel_rfl) trivial)
noncomputable def E32 : ((Int × (Int × KD0)) × Unit) → Option Bool := fun x => S32   x.1
noncomputable def F32 : ((Int × (Int × KD0)) × Unit) → Bool := fun x => (E32 x).getD (dflt .bool)
noncomputable def G32 : ((Int × (Int × KD0)) × Unit) → Bool := fun x => (E32 x).isSome
theorem p32 : ∀ x, G32 x = true → PureOK Try.prog 32 (mkA [KT4] x) ⟨.bool, F32 x⟩ :=
  PureOK.ofS (ts := [KT4]) (T := .bool) (S := E32) CxOK32 Try.func32 (LOK.fn LOK32) (fun x => t32   x.1)
noncomputable def kn29 : Kn := kOf [(28, sm [KT4] (.int .i64) F28 G28), (32, sm [KT4] .bool F32 G32)]
theorem knOK29 : KOK Try.prog kn29 := (KOK.cons Try.call28 (SmOK.sm p28) (KOK.cons Try.call32 (SmOK.sm p32) KOK.nil))
noncomputable def C29 : Cx := CxL Try.Θ kn29 (lOf [])
theorem CxOK29 : CxOK Try.prog C29 := ⟨Try.tabOK, knOK29, by kernel_rfl⟩
theorem LOK29 : LOK Try.prog C29 0 (bodyF Try.f29) := (Lall.LOK rfl (by kernel_rfl) trivial)
noncomputable def E29 : ((Int × (Int × KD0)) × Unit) → Option Bool := fun x => S29 F28 G28 F32 G32  x.1
noncomputable def F29 : ((Int × (Int × KD0)) × Unit) → Bool := fun x => (E29 x).getD (dflt .bool)
noncomputable def G29 : ((Int × (Int × KD0)) × Unit) → Bool := fun x => (E29 x).isSome
theorem p29 : ∀ x, G29 x = true → PureOK Try.prog 29 (mkA [KT4] x) ⟨.bool, F29 x⟩ :=
  PureOK.ofS (ts := [KT4]) (T := .bool) (S := E29) CxOK29 Try.func29 (LOK.fn LOK29) (fun x => t29 F28 G28 F32 G32  x.1)
noncomputable def kn30 : Kn := kOf [(28, sm [KT4] (.int .i64) F28 G28)]
theorem knOK30 : KOK Try.prog kn30 := (KOK.cons Try.call28 (SmOK.sm p28) KOK.nil)
noncomputable def C30 : Cx := CxL Try.Θ kn30 (lOf [])
theorem CxOK30 : CxOK Try.prog C30 := ⟨Try.tabOK, knOK30, by kernel_rfl⟩
theorem LOK30 : LOK Try.prog C30 0 (bodyF Try.f30) := (Lall.LOK rfl (by kernel_rfl) trivial)
noncomputable def E30 : ((Int × (Int × KD0)) × Unit) → Option Int := fun x => S30 F28 G28  x.1
noncomputable def F30 : ((Int × (Int × KD0)) × Unit) → Int := fun x => (E30 x).getD (dflt (.int .i64))
noncomputable def G30 : ((Int × (Int × KD0)) × Unit) → Bool := fun x => (E30 x).isSome
theorem p30 : ∀ x, G30 x = true → PureOK Try.prog 30 (mkA [KT4] x) ⟨(.int .i64), F30 x⟩ :=
  PureOK.ofS (ts := [KT4]) (T := (.int .i64)) (S := E30) CxOK30 Try.func30 (LOK.fn LOK30) (fun x => t30 F28 G28  x.1)
noncomputable def kn35 : Kn := kOf []
theorem knOK35 : KOK Try.prog kn35 := KOK.nil
noncomputable def V35_0 : ((List Int) × Int × Int × Int × Unit) → Option (((List Int) × Int × Int × Int × Unit) ⊕ ((Unit) ⊕ (Int × Unit))) := fun x => R35_0  (fun _ => (Sum.inl (()))) (fun _ => false) x.1 x.2.1 x.2.2.1 x.2.2.2.1
noncomputable def W35_0 : ((List Int) × Int × Int × Int × Unit) → ((Unit) ⊕ (Int × Unit)) := whV (hd := hd35_0) (ys := ys35_0) V35_0
noncomputable def Q35_0 : ((List Int) × Int × Int × Int × Unit) → Bool := whK (hd := hd35_0) (ys := ys35_0) V35_0
noncomputable def C35 : Cx := CxL Try.Θ kn35 (lOf [(0, orc 19 24 0 hd35_0 ys35_0 W35_0 Q35_0)])
theorem CxOK35 : CxOK Try.prog C35 := ⟨Try.tabOK, knOK35, by kernel_rfl⟩
theorem l35_0 : Lone Try.prog C35 0 (.loop (loopB 0 (bodyF Try.f35))) (orc 19 24 0 hd35_0 ys35_0 W35_0 Q35_0) :=
  Lone.of CxOK35 (Lall.LOK rfl (by kernel_rfl) (Lall.skip (by kernel_rfl) trivial)) (by kernel_rfl) (fun x => (r35_0  W35_0 Q35_0 x.1 x.2.1 x.2.2.1 x.2.2.2.1).trans (by rfl))
theorem LOK35 : LOK Try.prog C35 0 (bodyF Try.f35) := (Lall.LOK rfl (by kernel_rfl) (Lall.cons (by kernel_rfl) l35_0 trivial))
noncomputable def E35 : ((List Int) × Int × Unit) → Option Int := fun x => S35  W35_0 Q35_0 x.1 x.2.1
noncomputable def F35 : ((List Int) × Int × Unit) → Int := fun x => (E35 x).getD (dflt (.int .i64))
noncomputable def G35 : ((List Int) × Int × Unit) → Bool := fun x => (E35 x).isSome
theorem p35 : ∀ x, G35 x = true → PureOK Try.prog 35 (mkA [(.vsl (.int .i64)), (.int .i64)] x) ⟨(.int .i64), F35 x⟩ :=
  PureOK.ofS (ts := [(.vsl (.int .i64)), (.int .i64)]) (T := (.int .i64)) (S := E35) CxOK35 Try.func35 (LOK.fn LOK35) (fun x => t35  W35_0 Q35_0 x.1 x.2.1)
noncomputable def kn24 : Kn := kOf [(35, sm [(.vsl (.int .i64)), (.int .i64)] (.int .i64) F35 G35)]
theorem knOK24 : KOK Try.prog kn24 := (KOK.cons Try.call35 (SmOK.sm p35) KOK.nil)
noncomputable def C24 : Cx := CxL Try.Θ kn24 (lOf [])
theorem CxOK24 : CxOK Try.prog C24 := ⟨Try.tabOK, knOK24, by kernel_rfl⟩
theorem LOK24 : LOK Try.prog C24 0 (bodyF Try.f24) := (Lall.LOK rfl (by kernel_rfl) trivial)
noncomputable def E24 : ((List Int) × Int × Unit) → Option Bool := fun x => S24 F35 G35  x.1 x.2.1
noncomputable def F24 : ((List Int) × Int × Unit) → Bool := fun x => (E24 x).getD (dflt .bool)
noncomputable def G24 : ((List Int) × Int × Unit) → Bool := fun x => (E24 x).isSome
theorem p24 : ∀ x, G24 x = true → PureOK Try.prog 24 (mkA [(.vsl (.int .i64)), (.int .i64)] x) ⟨.bool, F24 x⟩ :=
  PureOK.ofS (ts := [(.vsl (.int .i64)), (.int .i64)]) (T := .bool) (S := E24) CxOK24 Try.func24 (LOK.fn LOK24) (fun x => t24 F35 G35  x.1 x.2.1)
noncomputable def kn31 : Kn := kOf [(24, sm [(.vsl (.int .i64)), (.int .i64)] .bool F24 G24)]
theorem knOK31 : KOK Try.prog kn31 := (KOK.cons Try.call24 (SmOK.sm p24) KOK.nil)
noncomputable def C31 : Cx := CxL Try.Θ kn31 (lOf [])
theorem CxOK31 : CxOK Try.prog C31 := ⟨Try.tabOK, knOK31, by kernel_rfl⟩
theorem LOK31 : LOK Try.prog C31 0 (bodyF Try.f31) := (Lall.LOK rfl (by kernel_rfl) trivial)
noncomputable def E31 : (Int × Unit) → Option Bool := fun x => S31 F24 G24  x.1
noncomputable def F31 : (Int × Unit) → Bool := fun x => (E31 x).getD (dflt .bool)
noncomputable def G31 : (Int × Unit) → Bool := fun x => (E31 x).isSome
theorem p31 : ∀ x, G31 x = true → PureOK Try.prog 31 (mkA [(.int .i64)] x) ⟨.bool, F31 x⟩ :=
  PureOK.ofS (ts := [(.int .i64)]) (T := .bool) (S := E31) CxOK31 Try.func31 (LOK.fn LOK31) (fun x => t31 F24 G24  x.1)
noncomputable def kn17 : Kn := kOf [(23, sm [KT4] .bool F23 G23), (27, sm [KT4] .bool F27 G27), (28, sm [KT4] (.int .i64) F28 G28), (29, sm [KT4] .bool F29 G29), (30, sm [KT4] (.int .i64) F30 G30), (31, sm [(.int .i64)] .bool F31 G31), (32, sm [KT4] .bool F32 G32)]
theorem knOK17 : KOK Try.prog kn17 := (KOK.cons Try.call23 (SmOK.sm p23) (KOK.cons Try.call27 (SmOK.sm p27) (KOK.cons Try.call28 (SmOK.sm p28) (KOK.cons Try.call29 (SmOK.sm p29) (KOK.cons Try.call30 (SmOK.sm p30) (KOK.cons Try.call31 (SmOK.sm p31) (KOK.cons Try.call32 (SmOK.sm p32) KOK.nil)))))))
noncomputable def C17 : Cx := CxL Try.Θ kn17 (lOf [])
theorem CxOK17 : CxOK Try.prog C17 := ⟨Try.tabOK, knOK17, by kernel_rfl⟩
theorem LOK17 : LOK Try.prog C17 0 (bodyF Try.f17) := (Lall.LOK rfl (by kernel_rfl) trivial)
noncomputable def E17 : ((Int × (Int × KD0)) × Unit) → Option Bool := fun x => S17 F23 G23 F27 G27 F28 G28 F29 G29 F30 G30 F31 G31 F32 G32  x.1
noncomputable def F17 : ((Int × (Int × KD0)) × Unit) → Bool := fun x => (E17 x).getD (dflt .bool)
noncomputable def G17 : ((Int × (Int × KD0)) × Unit) → Bool := fun x => (E17 x).isSome
theorem p17 : ∀ x, G17 x = true → PureOK Try.prog 17 (mkA [KT4] x) ⟨.bool, F17 x⟩ :=
  PureOK.ofS (ts := [KT4]) (T := .bool) (S := E17) CxOK17 Try.func17 (LOK.fn LOK17) (fun x => t17 F23 G23 F27 G27 F28 G28 F29 G29 F30 G30 F31 G31 F32 G32  x.1)
noncomputable def kn22 : Kn := kOf [(23, sm [KT4] .bool F23 G23)]
theorem knOK22 : KOK Try.prog kn22 := (KOK.cons Try.call23 (SmOK.sm p23) KOK.nil)
noncomputable def C22 : Cx := CxL Try.Θ kn22 (lOf [])
theorem CxOK22 : CxOK Try.prog C22 := ⟨Try.tabOK, knOK22, by kernel_rfl⟩
theorem LOK22 : LOK Try.prog C22 0 (bodyF Try.f22) := (Lall.LOK rfl (by kernel_rfl) trivial)
noncomputable def E22 : ((Int × (Int × KD0)) × Unit) → Option Int := fun x => S22 F23 G23  x.1
noncomputable def F22 : ((Int × (Int × KD0)) × Unit) → Int := fun x => (E22 x).getD (dflt (.int .i64))
noncomputable def G22 : ((Int × (Int × KD0)) × Unit) → Bool := fun x => (E22 x).isSome
theorem p22 : ∀ x, G22 x = true → PureOK Try.prog 22 (mkA [KT4] x) ⟨(.int .i64), F22 x⟩ :=
  PureOK.ofS (ts := [KT4]) (T := (.int .i64)) (S := E22) CxOK22 Try.func22 (LOK.fn LOK22) (fun x => t22 F23 G23  x.1)
noncomputable def kn18 : Kn := kOf [(17, sm [KT4] .bool F17 G17), (22, sm [KT4] (.int .i64) F22 G22), (23, sm [KT4] .bool F23 G23)]
theorem knOK18 : KOK Try.prog kn18 := (KOK.cons Try.call17 (SmOK.sm p17) (KOK.cons Try.call22 (SmOK.sm p22) (KOK.cons Try.call23 (SmOK.sm p23) KOK.nil)))
noncomputable def V18_0 : (KD1 × (List Bool) × Int × Unit) → Option ((KD1 × (List Bool) × Int × Unit) ⊕ (((List Bool) × Unit) ⊕ ((List Bool) × Int × Unit))) := fun x => R18_0 F17 G17 F22 G22 F23 G23 (fun _ => (Sum.inl ([], ()))) (fun _ => false) x.1 x.2.1 x.2.2.1
noncomputable def W18_0 : (KD1 × (List Bool) × Int × Unit) → (((List Bool) × Unit) ⊕ ((List Bool) × Int × Unit)) := whV (hd := hd18_0) (ys := ys18_0) V18_0
noncomputable def Q18_0 : (KD1 × (List Bool) × Int × Unit) → Bool := whK (hd := hd18_0) (ys := ys18_0) V18_0
noncomputable def C18 : Cx := CxL Try.Θ kn18 (lOf [(0, orc 79 25 0 hd18_0 ys18_0 W18_0 Q18_0)])
theorem CxOK18 : CxOK Try.prog C18 := ⟨Try.tabOK, knOK18, by kernel_rfl⟩
theorem l18_0 : Lone Try.prog C18 0 (.loop (loopB 0 (bodyF Try.f18))) (orc 79 25 0 hd18_0 ys18_0 W18_0 Q18_0) :=
  Lone.of CxOK18 (Lall.LOK rfl (by kernel_rfl) (Lall.skip (by kernel_rfl) trivial)) (by kernel_rfl) (fun x => (r18_0 F17 G17 F22 G22 F23 G23 W18_0 Q18_0 x.1 x.2.1 x.2.2.1).trans (by rfl))
theorem LOK18 : LOK Try.prog C18 0 (bodyF Try.f18) := (Lall.LOK rfl (by kernel_rfl) (Lall.cons (by kernel_rfl) l18_0 trivial))
noncomputable def E18 : (KD1 × Unit) → Option KD5 := fun x => S18 F17 G17 F22 G22 F23 G23 W18_0 Q18_0 x.1
noncomputable def F18 : (KD1 × Unit) → KD5 := fun x => (E18 x).getD (dflt (.tup (.vsl .bool) KT6))
noncomputable def G18 : (KD1 × Unit) → Bool := fun x => (E18 x).isSome
theorem p18 : ∀ x, G18 x = true → PureOK Try.prog 18 (mkA [(.vsl KT4)] x) ⟨(.tup (.vsl .bool) KT6), F18 x⟩ :=
  PureOK.ofS (ts := [(.vsl KT4)]) (T := (.tup (.vsl .bool) KT6)) (S := E18) CxOK18 Try.func18 (LOK.fn LOK18) (fun x => t18 F17 G17 F22 G22 F23 G23 W18_0 Q18_0 x.1)
noncomputable def kn19 : Kn := kOf [(28, sm [KT4] (.int .i64) F28 G28)]
theorem knOK19 : KOK Try.prog kn19 := (KOK.cons Try.call28 (SmOK.sm p28) KOK.nil)
noncomputable def C19 : Cx := CxL Try.Θ kn19 (lOf [])
theorem CxOK19 : CxOK Try.prog C19 := ⟨Try.tabOK, knOK19, by kernel_rfl⟩
theorem LOK19 : LOK Try.prog C19 0 (bodyF Try.f19) := (Lall.LOK rfl (by kernel_rfl) trivial)
noncomputable def E19 : ((Int × (Int × KD0)) × Unit) → Option Bool := fun x => S19 F28 G28  x.1
noncomputable def F19 : ((Int × (Int × KD0)) × Unit) → Bool := fun x => (E19 x).getD (dflt .bool)
noncomputable def G19 : ((Int × (Int × KD0)) × Unit) → Bool := fun x => (E19 x).isSome
theorem p19 : ∀ x, G19 x = true → PureOK Try.prog 19 (mkA [KT4] x) ⟨.bool, F19 x⟩ :=
  PureOK.ofS (ts := [KT4]) (T := .bool) (S := E19) CxOK19 Try.func19 (LOK.fn LOK19) (fun x => t19 F28 G28  x.1)
noncomputable def kn7 : Kn := kOf [(18, sm [(.vsl KT4)] (.tup (.vsl .bool) KT6) F18 G18), (19, sm [KT4] .bool F19 G19)]
theorem knOK7 : KOK Try.prog kn7 := (KOK.cons Try.call18 (SmOK.sm p18) (KOK.cons Try.call19 (SmOK.sm p19) KOK.nil))
noncomputable def V7_0 : (KD1 × (List Bool) × Int × KD1 × Int × Int × Unit) → Option ((KD1 × (List Bool) × Int × KD1 × Int × Int × Unit) ⊕ ((KD1 × Int × Unit) ⊕ (Int × Int × Unit))) := fun x => R7_0 F18 G18 F19 G19 (fun _ => (Sum.inl ([], 0, ()))) (fun _ => false) x.1 x.2.1 x.2.2.1 x.2.2.2.1 x.2.2.2.2.1 x.2.2.2.2.2.1
noncomputable def W7_0 : (KD1 × (List Bool) × Int × KD1 × Int × Int × Unit) → ((KD1 × Int × Unit) ⊕ (Int × Int × Unit)) := whV (hd := hd7_0) (ys := ys7_0) V7_0
noncomputable def Q7_0 : (KD1 × (List Bool) × Int × KD1 × Int × Int × Unit) → Bool := whK (hd := hd7_0) (ys := ys7_0) V7_0
noncomputable def C7 : Cx := CxL Try.Θ kn7 (lOf [(0, orc 78 24 0 hd7_0 ys7_0 W7_0 Q7_0)])
theorem CxOK7 : CxOK Try.prog C7 := ⟨Try.tabOK, knOK7, by kernel_rfl⟩
theorem l7_0 : Lone Try.prog C7 0 (.loop (loopB 0 (bodyF Try.f7))) (orc 78 24 0 hd7_0 ys7_0 W7_0 Q7_0) :=
  Lone.of CxOK7 (Lall.LOK rfl (by kernel_rfl) (Lall.skip (by kernel_rfl) trivial)) (by kernel_rfl) (fun x => (r7_0 F18 G18 F19 G19 W7_0 Q7_0 x.1 x.2.1 x.2.2.1 x.2.2.2.1 x.2.2.2.2.1 x.2.2.2.2.2.1).trans (by rfl))
theorem LOK7 : LOK Try.prog C7 0 (bodyF Try.f7) := (Lall.LOK rfl (by kernel_rfl) (Lall.cons (by kernel_rfl) l7_0 trivial))
noncomputable def E7 : (KD1 × Unit) → Option (Int × (Int × Unit)) := fun x => S7 F18 G18 F19 G19 W7_0 Q7_0 x.1
noncomputable def F7 : (KD1 × Unit) → (Int × (Int × Unit)) := fun x => (E7 x).getD (dflt (.tup (.int .i64) KT6))
noncomputable def G7 : (KD1 × Unit) → Bool := fun x => (E7 x).isSome
theorem p7 : ∀ x, G7 x = true → PureOK Try.prog 7 (mkA [(.vsl KT4)] x) ⟨(.tup (.int .i64) KT6), F7 x⟩ :=
  PureOK.ofS (ts := [(.vsl KT4)]) (T := (.tup (.int .i64) KT6)) (S := E7) CxOK7 Try.func7 (LOK.fn LOK7) (fun x => t7 F18 G18 F19 G19 W7_0 Q7_0 x.1)
noncomputable def kn25 : Kn := kOf [(19, sm [KT4] .bool F19 G19), (22, sm [KT4] (.int .i64) F22 G22)]
theorem knOK25 : KOK Try.prog kn25 := (KOK.cons Try.call19 (SmOK.sm p19) (KOK.cons Try.call22 (SmOK.sm p22) KOK.nil))
noncomputable def C25 : Cx := CxL Try.Θ kn25 (lOf [])
theorem CxOK25 : CxOK Try.prog C25 := ⟨Try.tabOK, knOK25, by kernel_rfl⟩
theorem LOK25 : LOK Try.prog C25 0 (bodyF Try.f25) := (Lall.LOK rfl (by kernel_rfl) trivial)
noncomputable def E25 : (KD1 × Int × Unit) → Option (List Int) := fun x => S25 F19 G19 F22 G22  x.1 x.2.1
noncomputable def F25 : (KD1 × Int × Unit) → (List Int) := fun x => (E25 x).getD (dflt (.vsl (.int .i64)))
noncomputable def G25 : (KD1 × Int × Unit) → Bool := fun x => (E25 x).isSome
theorem p25 : ∀ x, G25 x = true → PureOK Try.prog 25 (mkA [(.vsl KT4), (.int .i64)] x) ⟨(.vsl (.int .i64)), F25 x⟩ :=
  PureOK.ofS (ts := [(.vsl KT4), (.int .i64)]) (T := (.vsl (.int .i64))) (S := E25) CxOK25 Try.func25 (LOK.fn LOK25) (fun x => t25 F19 G19 F22 G22  x.1 x.2.1)
noncomputable def kn13 : Kn := kOf [(7, sm [(.vsl KT4)] (.tup (.int .i64) KT6) F7 G7), (22, sm [KT4] (.int .i64) F22 G22), (25, sm [(.vsl KT4), (.int .i64)] (.vsl (.int .i64)) F25 G25)]
theorem knOK13 : KOK Try.prog kn13 := (KOK.cons Try.call7 (SmOK.sm p7) (KOK.cons Try.call22 (SmOK.sm p22) (KOK.cons Try.call25 (SmOK.sm p25) KOK.nil)))
noncomputable def V13_2 : (KD1 × (List Bool) × (List Int) × Int × Int × Int × Unit) → Option ((KD1 × (List Bool) × (List Int) × Int × Int × Int × Unit) ⊕ (KD1 × (List Bool) × (List Int) × Int × Unit)) := fun x => R13_2 F7 G7 F22 G22 F25 G25 (fun _ => ([], [], [], 0, ())) (fun _ => false) (fun _ => ([], ())) (fun _ => false) x.1 x.2.1 x.2.2.1 x.2.2.2.1 x.2.2.2.2.1 x.2.2.2.2.2.1
noncomputable def W13_2 : (KD1 × (List Bool) × (List Int) × Int × Int × Int × Unit) → (KD1 × (List Bool) × (List Int) × Int × Unit) := whV (hd := hd13_2) (ys := ys13_2) V13_2
noncomputable def Q13_2 : (KD1 × (List Bool) × (List Int) × Int × Int × Int × Unit) → Bool := whK (hd := hd13_2) (ys := ys13_2) V13_2
noncomputable def V13_0 : (KD1 × (List Bool) × (List Int) × Unit) → Option ((KD1 × (List Bool) × (List Int) × Unit) ⊕ ((List Bool) × Unit)) := fun x => R13_0 F7 G7 F22 G22 F25 G25 W13_2 Q13_2 (fun _ => ([], ())) (fun _ => false) x.1 x.2.1 x.2.2.1
noncomputable def W13_0 : (KD1 × (List Bool) × (List Int) × Unit) → ((List Bool) × Unit) := whV (hd := hd13_0) (ys := ys13_0) V13_0
noncomputable def Q13_0 : (KD1 × (List Bool) × (List Int) × Unit) → Bool := whK (hd := hd13_0) (ys := ys13_0) V13_0
noncomputable def C13 : Cx := CxL Try.Θ kn13 (lOf [(2, orc 54 50 2 hd13_2 ys13_2 W13_2 Q13_2), (0, orc 54 26 0 hd13_0 ys13_0 W13_0 Q13_0)])
theorem CxOK13 : CxOK Try.prog C13 := ⟨Try.tabOK, knOK13, by kernel_rfl⟩
theorem l13_2 : Lone Try.prog C13 2 (.loop (loopB 2 (bodyF Try.f13))) (orc 54 50 2 hd13_2 ys13_2 W13_2 Q13_2) :=
  Lone.of CxOK13 (Lall.LOK rfl (by kernel_rfl) (Lall.skip (by kernel_rfl) (Lall.skip (by kernel_rfl) trivial))) (by kernel_rfl) (fun x => (r13_2 F7 G7 F22 G22 F25 G25 W13_2 Q13_2 W13_0 Q13_0 x.1 x.2.1 x.2.2.1 x.2.2.2.1 x.2.2.2.2.1 x.2.2.2.2.2.1).trans (by rfl))
theorem l13_0 : Lone Try.prog C13 0 (.loop (loopB 0 (bodyF Try.f13))) (orc 54 26 0 hd13_0 ys13_0 W13_0 Q13_0) :=
  Lone.of CxOK13 (Lall.LOK rfl (by kernel_rfl) (Lall.cons (by kernel_rfl) l13_2 (Lall.skip (by kernel_rfl) trivial))) (by kernel_rfl) (fun x => (r13_0 F7 G7 F22 G22 F25 G25 W13_2 Q13_2 W13_0 Q13_0 x.1 x.2.1 x.2.2.1).trans (by rfl))
theorem LOK13 : LOK Try.prog C13 0 (bodyF Try.f13) := (Lall.LOK rfl (by kernel_rfl) (Lall.cons (by kernel_rfl) l13_2 (Lall.cons (by kernel_rfl) l13_0 trivial)))
noncomputable def E13 : (KD1 × Unit) → Option (List Bool) := fun x => S13 F7 G7 F22 G22 F25 G25 W13_2 Q13_2 W13_0 Q13_0 x.1
noncomputable def F13 : (KD1 × Unit) → (List Bool) := fun x => (E13 x).getD (dflt (.vsl .bool))
noncomputable def G13 : (KD1 × Unit) → Bool := fun x => (E13 x).isSome
theorem p13 : ∀ x, G13 x = true → PureOK Try.prog 13 (mkA [(.vsl KT4)] x) ⟨(.vsl .bool), F13 x⟩ :=
  PureOK.ofS (ts := [(.vsl KT4)]) (T := (.vsl .bool)) (S := E13) CxOK13 Try.func13 (LOK.fn LOK13) (fun x => t13 F7 G7 F22 G22 F25 G25 W13_2 Q13_2 W13_0 Q13_0 x.1)
noncomputable def kn15 : Kn := kOf [(7, sm [(.vsl KT4)] (.tup (.int .i64) KT6) F7 G7), (18, sm [(.vsl KT4)] (.tup (.vsl .bool) KT6) F18 G18), (25, sm [(.vsl KT4), (.int .i64)] (.vsl (.int .i64)) F25 G25)]
theorem knOK15 : KOK Try.prog kn15 := (KOK.cons Try.call7 (SmOK.sm p7) (KOK.cons Try.call18 (SmOK.sm p18) (KOK.cons Try.call25 (SmOK.sm p25) KOK.nil)))
noncomputable def C15 : Cx := CxL Try.Θ kn15 (lOf [])
theorem CxOK15 : CxOK Try.prog C15 := ⟨Try.tabOK, knOK15, by kernel_rfl⟩
theorem LOK15 : LOK Try.prog C15 0 (bodyF Try.f15) := (Lall.LOK rfl (by kernel_rfl) trivial)
noncomputable def E15 : (KD1 × Int × Unit) → Option (List Int) := fun x => S15 F7 G7 F18 G18 F25 G25  x.1 x.2.1
noncomputable def F15 : (KD1 × Int × Unit) → (List Int) := fun x => (E15 x).getD (dflt (.vsl (.int .i64)))
noncomputable def G15 : (KD1 × Int × Unit) → Bool := fun x => (E15 x).isSome
theorem p15 : ∀ x, G15 x = true → PureOK Try.prog 15 (mkA [(.vsl KT4), (.int .i64)] x) ⟨(.vsl (.int .i64)), F15 x⟩ :=
  PureOK.ofS (ts := [(.vsl KT4), (.int .i64)]) (T := (.vsl (.int .i64))) (S := E15) CxOK15 Try.func15 (LOK.fn LOK15) (fun x => t15 F7 G7 F18 G18 F25 G25  x.1 x.2.1)
noncomputable def kn5 : Kn := kOf [(7, sm [(.vsl KT4)] (.tup (.int .i64) KT6) F7 G7), (12, sm [] .bool F12 G12), (13, sm [(.vsl KT4)] (.vsl .bool) F13 G13), (15, sm [(.vsl KT4), (.int .i64)] (.vsl (.int .i64)) F15 G15), (17, sm [KT4] .bool F17 G17)]
theorem knOK5 : KOK Try.prog kn5 := (KOK.cons Try.call7 (SmOK.sm p7) (KOK.cons Try.call12 (SmOK.sm p12) (KOK.cons Try.call13 (SmOK.sm p13) (KOK.cons Try.call15 (SmOK.sm p15) (KOK.cons Try.call17 (SmOK.sm p17) KOK.nil)))))
noncomputable def V5_2 : (KD1 × (List Bool) × Int × (List Int) × Int × Unit) → Option ((KD1 × (List Bool) × Int × (List Int) × Int × Unit) ⊕ ((KD1 × (List Bool) × Int × Unit) ⊕ (Bool × Unit))) := fun x => R5_2 F7 G7 F12 G12 F13 G13 F15 G15 F17 G17 (fun _ => (Sum.inl ([], [], 0, ()))) (fun _ => false) (fun _ => (Sum.inl ([], ()))) (fun _ => false) x.1 x.2.1 x.2.2.1 x.2.2.2.1 x.2.2.2.2.1
noncomputable def W5_2 : (KD1 × (List Bool) × Int × (List Int) × Int × Unit) → ((KD1 × (List Bool) × Int × Unit) ⊕ (Bool × Unit)) := whV (hd := hd5_2) (ys := ys5_2) V5_2
noncomputable def Q5_2 : (KD1 × (List Bool) × Int × (List Int) × Int × Unit) → Bool := whK (hd := hd5_2) (ys := ys5_2) V5_2
noncomputable def V5_0 : (KD1 × (List Bool) × Int × Unit) → Option ((KD1 × (List Bool) × Int × Unit) ⊕ (((List Bool) × Unit) ⊕ (Bool × Unit))) := fun x => R5_0 F7 G7 F12 G12 F13 G13 F15 G15 F17 G17 W5_2 Q5_2 (fun _ => (Sum.inl ([], ()))) (fun _ => false) x.1 x.2.1 x.2.2.1
noncomputable def W5_0 : (KD1 × (List Bool) × Int × Unit) → (((List Bool) × Unit) ⊕ (Bool × Unit)) := whV (hd := hd5_0) (ys := ys5_0) V5_0
noncomputable def Q5_0 : (KD1 × (List Bool) × Int × Unit) → Bool := whK (hd := hd5_0) (ys := ys5_0) V5_0
noncomputable def C5 : Cx := CxL Try.Θ kn5 (lOf [(2, orc 104 48 2 hd5_2 ys5_2 W5_2 Q5_2), (0, orc 104 24 0 hd5_0 ys5_0 W5_0 Q5_0)])
theorem CxOK5 : CxOK Try.prog C5 := ⟨Try.tabOK, knOK5, by kernel_rfl⟩
theorem l5_2 : Lone Try.prog C5 2 (.loop (loopB 2 (bodyF Try.f5))) (orc 104 48 2 hd5_2 ys5_2 W5_2 Q5_2) :=
  Lone.of CxOK5 (Lall.LOK rfl (by kernel_rfl) (Lall.skip (by kernel_rfl) (Lall.skip (by kernel_rfl) trivial))) (by kernel_rfl) (fun x => (r5_2 F7 G7 F12 G12 F13 G13 F15 G15 F17 G17 W5_2 Q5_2 W5_0 Q5_0 x.1 x.2.1 x.2.2.1 x.2.2.2.1 x.2.2.2.2.1).trans (by rfl))
theorem l5_0 : Lone Try.prog C5 0 (.loop (loopB 0 (bodyF Try.f5))) (orc 104 24 0 hd5_0 ys5_0 W5_0 Q5_0) :=
  Lone.of CxOK5 (Lall.LOK rfl (by kernel_rfl) (Lall.cons (by kernel_rfl) l5_2 (Lall.skip (by kernel_rfl) trivial))) (by kernel_rfl) (fun x => (r5_0 F7 G7 F12 G12 F13 G13 F15 G15 F17 G17 W5_2 Q5_2 W5_0 Q5_0 x.1 x.2.1 x.2.2.1).trans (by rfl))
theorem LOK5 : LOK Try.prog C5 0 (bodyF Try.f5) := (Lall.LOK rfl (by kernel_rfl) (Lall.cons (by kernel_rfl) l5_2 (Lall.cons (by kernel_rfl) l5_0 trivial)))
noncomputable def E5 : (KD1 × Unit) → Option Bool := fun x => S5 F7 G7 F12 G12 F13 G13 F15 G15 F17 G17 W5_2 Q5_2 W5_0 Q5_0 x.1
noncomputable def F5 : (KD1 × Unit) → Bool := fun x => (E5 x).getD (dflt .bool)
noncomputable def G5 : (KD1 × Unit) → Bool := fun x => (E5 x).isSome
theorem p5 : ∀ x, G5 x = true → PureOK Try.prog 5 (mkA [(.vsl KT4)] x) ⟨.bool, F5 x⟩ :=
  PureOK.ofS (ts := [(.vsl KT4)]) (T := .bool) (S := E5) CxOK5 Try.func5 (LOK.fn LOK5) (fun x => t5 F7 G7 F12 G12 F13 G13 F15 G15 F17 G17 W5_2 Q5_2 W5_0 Q5_0 x.1)
noncomputable def kn6 : Kn := kOf [(7, sm [(.vsl KT4)] (.tup (.int .i64) KT6) F7 G7), (12, sm [] .bool F12 G12), (13, sm [(.vsl KT4)] (.vsl .bool) F13 G13)]
theorem knOK6 : KOK Try.prog kn6 := (KOK.cons Try.call7 (SmOK.sm p7) (KOK.cons Try.call12 (SmOK.sm p12) (KOK.cons Try.call13 (SmOK.sm p13) KOK.nil)))
noncomputable def V6_0 : (KD1 × (List Bool) × (List Bool) × Int × Unit) → Option ((KD1 × (List Bool) × (List Bool) × Int × Unit) ⊕ ((Unit) ⊕ (Bool × Unit))) := fun x => R6_0 F7 G7 F12 G12 F13 G13 (fun _ => (Sum.inl (()))) (fun _ => false) x.1 x.2.1 x.2.2.1 x.2.2.2.1
noncomputable def W6_0 : (KD1 × (List Bool) × (List Bool) × Int × Unit) → ((Unit) ⊕ (Bool × Unit)) := whV (hd := hd6_0) (ys := ys6_0) V6_0
noncomputable def Q6_0 : (KD1 × (List Bool) × (List Bool) × Int × Unit) → Bool := whK (hd := hd6_0) (ys := ys6_0) V6_0
noncomputable def C6 : Cx := CxL Try.Θ kn6 (lOf [(0, orc 77 27 0 hd6_0 ys6_0 W6_0 Q6_0)])
theorem CxOK6 : CxOK Try.prog C6 := ⟨Try.tabOK, knOK6, by kernel_rfl⟩
theorem l6_0 : Lone Try.prog C6 0 (.loop (loopB 0 (bodyF Try.f6))) (orc 77 27 0 hd6_0 ys6_0 W6_0 Q6_0) :=
  Lone.of CxOK6 (Lall.LOK rfl (by kernel_rfl) (Lall.skip (by kernel_rfl) trivial)) (by kernel_rfl) (fun x => (r6_0 F7 G7 F12 G12 F13 G13 W6_0 Q6_0 x.1 x.2.1 x.2.2.1 x.2.2.2.1).trans (by rfl))
theorem LOK6 : LOK Try.prog C6 0 (bodyF Try.f6) := (Lall.LOK rfl (by kernel_rfl) (Lall.cons (by kernel_rfl) l6_0 trivial))
noncomputable def E6 : (KD1 × Unit) → Option Bool := fun x => S6 F7 G7 F12 G12 F13 G13 W6_0 Q6_0 x.1
noncomputable def F6 : (KD1 × Unit) → Bool := fun x => (E6 x).getD (dflt .bool)
noncomputable def G6 : (KD1 × Unit) → Bool := fun x => (E6 x).isSome
theorem p6 : ∀ x, G6 x = true → PureOK Try.prog 6 (mkA [(.vsl KT4)] x) ⟨.bool, F6 x⟩ :=
  PureOK.ofS (ts := [(.vsl KT4)]) (T := .bool) (S := E6) CxOK6 Try.func6 (LOK.fn LOK6) (fun x => t6 F7 G7 F12 G12 F13 G13 W6_0 Q6_0 x.1)
end Go.Proofs
