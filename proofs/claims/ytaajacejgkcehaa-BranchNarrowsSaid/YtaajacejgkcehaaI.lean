import Derived.Test.YtaajacejgkcehaaB
import Derived.Test.YtaajacejgkcehaaGc
namespace Go.Proofs
open Go.GX
set_option linter.unusedVariables false
set_option maxRecDepth 100000

noncomputable def F14 : Unit → Bool := fun _ => true
noncomputable def G14 : Unit → Bool := fun _ => true
theorem t14 : fnT ⟨true, Try.Θ, KX Try.Θ Try.F (fun _ => none) 100 10, 100, fun _ => none⟩ Try.f14 .bool [] = some true := by kernel_rfl
theorem p14 : ∀ x, G14 x = true → PureOK Try.prog 14 (mkA [] x) ⟨.bool, F14 x⟩ := fun x _ => fnT_pure Try.tabOK (KX_ok Try.tabOK Try.FOK KOK.none (by kernel_rfl) 10) (by kernel_rfl) Try.func14 t14
noncomputable def kn36 : Kn := kOf []
theorem knOK36 : KOK Try.prog kn36 := KOK.nil
noncomputable def C36 : Cx := CxL Try.Θ kn36 (lOf [])
theorem CxOK36 : CxOK Try.prog C36 := ⟨Try.tabOK, knOK36, by kernel_rfl⟩
theorem LOK36 : LOK Try.prog C36 0 (bodyF Try.f36) := (Lall.LOK rfl (by kernel_rfl) trivial)
noncomputable def E36 : ((Int × (Int × Unit)) × Unit) → Option Bool := fun x => S36   x.1
noncomputable def F36 : ((Int × (Int × Unit)) × Unit) → Bool := fun x => (E36 x).getD (dflt .bool)
noncomputable def G36 : ((Int × (Int × Unit)) × Unit) → Bool := fun x => (E36 x).isSome
theorem p36 : ∀ x, G36 x = true → PureOK Try.prog 36 (mkA [(.pair (.int .u64) KT1)] x) ⟨.bool, F36 x⟩ :=
  PureOK.ofS (ts := [(.pair (.int .u64) KT1)]) (T := .bool) (S := E36) CxOK36 Try.func36 (LOK.fn LOK36) (fun x => t36   x.1)
noncomputable def kn37 : Kn := kOf []
theorem knOK37 : KOK Try.prog kn37 := KOK.nil
noncomputable def V37_0 : (Int × Unit × Int × Int × (Int × (Int × Unit)) × Unit) → Option ((Int × Unit × Int × Int × (Int × (Int × Unit)) × Unit) ⊕ (Int × Unit × Int × (Int × (Int × Unit)) × Unit)) := fun x => R37_0  (fun _ => (0, (), 0, (0, (0, ())), ())) (fun _ => false) x.1 x.2.1 x.2.2.1 x.2.2.2.1 x.2.2.2.2.1
noncomputable def W37_0 : (Int × Unit × Int × Int × (Int × (Int × Unit)) × Unit) → (Int × Unit × Int × (Int × (Int × Unit)) × Unit) := whV (hd := hd37_0) (ys := ys37_0) V37_0
noncomputable def Q37_0 : (Int × Unit × Int × Int × (Int × (Int × Unit)) × Unit) → Bool := whK (hd := hd37_0) (ys := ys37_0) V37_0
noncomputable def C37 : Cx := CxL Try.Θ kn37 (lOf [(0, orc 22 25 0 hd37_0 ys37_0 W37_0 Q37_0)])
theorem CxOK37 : CxOK Try.prog C37 := ⟨Try.tabOK, knOK37, by kernel_rfl⟩
theorem l37_0 : Lone Try.prog C37 0 (.loop (loopB 0 (bodyF Try.f37))) (orc 22 25 0 hd37_0 ys37_0 W37_0 Q37_0) :=
  Lone.of CxOK37 (Lall.LOK rfl (by kernel_rfl) (Lall.skip (by kernel_rfl) trivial)) (by kernel_rfl) (fun x => (r37_0  W37_0 Q37_0 x.1 x.2.1 x.2.2.1 x.2.2.2.1 x.2.2.2.2.1).trans (by rfl))
theorem LOK37 : LOK Try.prog C37 0 (bodyF Try.f37) := (Lall.LOK rfl (by kernel_rfl) (Lall.cons (by kernel_rfl) l37_0 trivial))
noncomputable def E37 : (Int × Int × Unit) → Option (Int × (Int × Unit)) := fun x => S37  W37_0 Q37_0 x.1 x.2.1
noncomputable def F37 : (Int × Int × Unit) → (Int × (Int × Unit)) := fun x => (E37 x).getD (dflt (.pair (.int .u64) KT1))
noncomputable def G37 : (Int × Int × Unit) → Bool := fun x => (E37 x).isSome
theorem p37 : ∀ x, G37 x = true → PureOK Try.prog 37 (mkA [(.int .u64), (.int .u64)] x) ⟨(.pair (.int .u64) KT1), F37 x⟩ :=
  PureOK.ofS (ts := [(.int .u64), (.int .u64)]) (T := (.pair (.int .u64) KT1)) (S := E37) CxOK37 Try.func37 (LOK.fn LOK37) (fun x => t37  W37_0 Q37_0 x.1 x.2.1)
noncomputable def kn26 : Kn := kOf []
theorem knOK26 : KOK Try.prog kn26 := KOK.nil
noncomputable def C26 : Cx := CxL Try.Θ kn26 (lOf [])
theorem CxOK26 : CxOK Try.prog C26 := ⟨Try.tabOK, knOK26, by kernel_rfl⟩
theorem LOK26 : LOK Try.prog C26 0 (bodyF Try.f26) := (Lall.LOK rfl (by kernel_rfl) trivial)
noncomputable def E26 : ((Int × (Int × Unit)) × (Int × (Int × Unit)) × Unit) → Option KD2 := fun x => S26   x.1 x.2.1
noncomputable def F26 : ((Int × (Int × Unit)) × (Int × (Int × Unit)) × Unit) → KD2 := fun x => (E26 x).getD (dflt KT3)
noncomputable def G26 : ((Int × (Int × Unit)) × (Int × (Int × Unit)) × Unit) → Bool := fun x => (E26 x).isSome
theorem p26 : ∀ x, G26 x = true → PureOK Try.prog 26 (mkA [(.pair (.int .u64) KT1), (.pair (.int .u64) KT1)] x) ⟨KT3, F26 x⟩ :=
  PureOK.ofS (ts := [(.pair (.int .u64) KT1), (.pair (.int .u64) KT1)]) (T := KT3) (S := E26) CxOK26 Try.func26 (LOK.fn LOK26) (fun x => t26   x.1 x.2.1)
noncomputable def kn18 : Kn := kOf [(26, sm [(.pair (.int .u64) KT1), (.pair (.int .u64) KT1)] KT3 F26 G26), (36, sm [(.pair (.int .u64) KT1)] .bool F36 G36), (37, sm [(.int .u64), (.int .u64)] (.pair (.int .u64) KT1) F37 G37)]
theorem knOK18 : KOK Try.prog kn18 := (KOK.cons Try.call26 (SmOK.sm p26) (KOK.cons Try.call36 (SmOK.sm p36) (KOK.cons Try.call37 (SmOK.sm p37) KOK.nil)))
noncomputable def V18_0 : (Unit × Unit × Int × KD0 × KD0 × Unit) → Option ((Unit × Unit × Int × KD0 × KD0 × Unit) ⊕ ((Unit × Unit × KD0 × KD0 × Unit) ⊕ (Unit × Bool × KD0 × Unit))) := fun x => R18_0 F26 G26 F36 G36 F37 G37 (fun _ => (Sum.inl ((), (), ((0, (0, ())), (0, (0, ()))), ((0, (0, ())), (0, (0, ()))), ()))) (fun _ => false) x.1 x.2.1 x.2.2.1 x.2.2.2.1 x.2.2.2.2.1
noncomputable def W18_0 : (Unit × Unit × Int × KD0 × KD0 × Unit) → ((Unit × Unit × KD0 × KD0 × Unit) ⊕ (Unit × Bool × KD0 × Unit)) := whV (hd := hd18_0) (ys := ys18_0) V18_0
noncomputable def Q18_0 : (Unit × Unit × Int × KD0 × KD0 × Unit) → Bool := whK (hd := hd18_0) (ys := ys18_0) V18_0
noncomputable def C18 : Cx := CxL Try.Θ kn18 (lOf [(0, orc 57 26 0 hd18_0 ys18_0 W18_0 Q18_0)])
theorem CxOK18 : CxOK Try.prog C18 := ⟨Try.tabOK, knOK18, by kernel_rfl⟩
theorem l18_0 : Lone Try.prog C18 0 (.loop (loopB 0 (bodyF Try.f18))) (orc 57 26 0 hd18_0 ys18_0 W18_0 Q18_0) :=
  Lone.of CxOK18 (Lall.LOK rfl (by kernel_rfl) (Lall.skip (by kernel_rfl) trivial)) (by kernel_rfl) (fun x => (r18_0 F26 G26 F36 G36 F37 G37 W18_0 Q18_0 x.1 x.2.1 x.2.2.1 x.2.2.2.1 x.2.2.2.2.1).trans (by rfl))
theorem LOK18 : LOK Try.prog C18 0 (bodyF Try.f18) := (Lall.LOK rfl (by kernel_rfl) (Lall.cons (by kernel_rfl) l18_0 trivial))
noncomputable def E18 : (KD0 × Unit) → Option (KD0 × (Bool × Unit)) := fun x => S18 F26 G26 F36 G36 F37 G37 W18_0 Q18_0 x.1
noncomputable def F18 : (KD0 × Unit) → (KD0 × (Bool × Unit)) := fun x => (E18 x).getD (dflt KT5)
noncomputable def G18 : (KD0 × Unit) → Bool := fun x => (E18 x).isSome
theorem p18 : ∀ x, G18 x = true → PureOK Try.prog 18 (mkA [KT4] x) ⟨KT5, F18 x⟩ :=
  PureOK.ofS (ts := [KT4]) (T := KT5) (S := E18) CxOK18 Try.func18 (LOK.fn LOK18) (fun x => t18 F26 G26 F36 G36 F37 G37 W18_0 Q18_0 x.1)
noncomputable def kn19 : Kn := kOf [(18, sm [KT4] KT5 F18 G18)]
theorem knOK19 : KOK Try.prog kn19 := (KOK.cons Try.call18 (SmOK.sm p18) KOK.nil)
noncomputable def C19 : Cx := CxL Try.Θ kn19 (lOf [])
theorem CxOK19 : CxOK Try.prog C19 := ⟨Try.tabOK, knOK19, by kernel_rfl⟩
theorem LOK19 : LOK Try.prog C19 0 (bodyF Try.f19) := (Lall.LOK rfl (by kernel_rfl) trivial)
noncomputable def E19 : (KD0 × Unit) → Option Bool := fun x => S19 F18 G18  x.1
noncomputable def F19 : (KD0 × Unit) → Bool := fun x => (E19 x).getD (dflt .bool)
noncomputable def G19 : (KD0 × Unit) → Bool := fun x => (E19 x).isSome
theorem p19 : ∀ x, G19 x = true → PureOK Try.prog 19 (mkA [KT4] x) ⟨.bool, F19 x⟩ :=
  PureOK.ofS (ts := [KT4]) (T := .bool) (S := E19) CxOK19 Try.func19 (LOK.fn LOK19) (fun x => t19 F18 G18  x.1)
noncomputable def kn20 : Kn := kOf []
theorem knOK20 : KOK Try.prog kn20 := KOK.nil
noncomputable def C20 : Cx := CxL Try.Θ kn20 (lOf [])
theorem CxOK20 : CxOK Try.prog C20 := ⟨Try.tabOK, knOK20, by kernel_rfl⟩
theorem LOK20 : LOK Try.prog C20 0 (bodyF Try.f20) := (Lall.LOK rfl (by kernel_rfl) trivial)
noncomputable def E20 : (Int × Unit) → Option KD0 := fun x => S20   x.1
noncomputable def F20 : (Int × Unit) → KD0 := fun x => (E20 x).getD (dflt KT4)
noncomputable def G20 : (Int × Unit) → Bool := fun x => (E20 x).isSome
theorem p20 : ∀ x, G20 x = true → PureOK Try.prog 20 (mkA [(.int .u64)] x) ⟨KT4, F20 x⟩ :=
  PureOK.ofS (ts := [(.int .u64)]) (T := KT4) (S := E20) CxOK20 Try.func20 (LOK.fn LOK20) (fun x => t20   x.1)
noncomputable def kn7 : Kn := kOf [(18, sm [KT4] KT5 F18 G18), (19, sm [KT4] .bool F19 G19), (20, sm [(.int .u64)] KT4 F20 G20)]
theorem knOK7 : KOK Try.prog kn7 := (KOK.cons Try.call18 (SmOK.sm p18) (KOK.cons Try.call19 (SmOK.sm p19) (KOK.cons Try.call20 (SmOK.sm p20) KOK.nil)))
noncomputable def C7 : Cx := CxL Try.Θ kn7 (lOf [])
theorem CxOK7 : CxOK Try.prog C7 := ⟨Try.tabOK, knOK7, by kernel_rfl⟩
theorem LOK7 : LOK Try.prog C7 0 (bodyF Try.f7) := (Lall.LOK rfl (by kernel_rfl) trivial)
noncomputable def E7 : (KD0 × Unit) → Option KD0 := fun x => S7 F18 G18 F19 G19 F20 G20  x.1
noncomputable def F7 : (KD0 × Unit) → KD0 := fun x => (E7 x).getD (dflt KT4)
noncomputable def G7 : (KD0 × Unit) → Bool := fun x => (E7 x).isSome
theorem p7 : ∀ x, G7 x = true → PureOK Try.prog 7 (mkA [KT4] x) ⟨KT4, F7 x⟩ :=
  PureOK.ofS (ts := [KT4]) (T := KT4) (S := E7) CxOK7 Try.func7 (LOK.fn LOK7) (fun x => t7 F18 G18 F19 G19 F20 G20  x.1)
noncomputable def kn12 : Kn := kOf []
theorem knOK12 : KOK Try.prog kn12 := KOK.nil
noncomputable def V12_0 : (Int × (List (List Int)) × Int × Int × Unit) → Option ((Int × (List (List Int)) × Int × Int × Unit) ⊕ ((Unit) ⊕ (Int × Unit))) := fun x => R12_0  (fun _ => (Sum.inl (()))) (fun _ => false) x.1 x.2.1 x.2.2.1 x.2.2.2.1
noncomputable def W12_0 : (Int × (List (List Int)) × Int × Int × Unit) → ((Unit) ⊕ (Int × Unit)) := whV (hd := hd12_0) (ys := ys12_0) V12_0
noncomputable def Q12_0 : (Int × (List (List Int)) × Int × Int × Unit) → Bool := whK (hd := hd12_0) (ys := ys12_0) V12_0
noncomputable def C12 : Cx := CxL Try.Θ kn12 (lOf [(0, orc 31 25 0 hd12_0 ys12_0 W12_0 Q12_0)])
theorem CxOK12 : CxOK Try.prog C12 := ⟨Try.tabOK, knOK12, by kernel_rfl⟩
theorem l12_0 : Lone Try.prog C12 0 (.loop (loopB 0 (bodyF Try.f12))) (orc 31 25 0 hd12_0 ys12_0 W12_0 Q12_0) :=
  Lone.of CxOK12 (Lall.LOK rfl (by kernel_rfl) (Lall.skip (by kernel_rfl) trivial)) (by kernel_rfl) (fun x => (r12_0  W12_0 Q12_0 x.1 x.2.1 x.2.2.1 x.2.2.2.1).trans (by rfl))
theorem LOK12 : LOK Try.prog C12 0 (bodyF Try.f12) := (Lall.LOK rfl (by kernel_rfl) (Lall.cons (by kernel_rfl) l12_0 trivial))
noncomputable def E12 : (Int × Unit) → Option Int := fun x => S12  W12_0 Q12_0 x.1
noncomputable def F12 : (Int × Unit) → Int := fun x => (E12 x).getD (dflt (.int .i64))
noncomputable def G12 : (Int × Unit) → Bool := fun x => (E12 x).isSome
theorem p12 : ∀ x, G12 x = true → PureOK Try.prog 12 (mkA [(.int .i64)] x) ⟨(.int .i64), F12 x⟩ :=
  PureOK.ofS (ts := [(.int .i64)]) (T := (.int .i64)) (S := E12) CxOK12 Try.func12 (LOK.fn LOK12) (fun x => t12  W12_0 Q12_0 x.1)
noncomputable def kn21 : Kn := kOf []
theorem knOK21 : KOK Try.prog kn21 := KOK.nil
noncomputable def C21 : Cx := CxL Try.Θ kn21 (lOf [])
theorem CxOK21 : CxOK Try.prog C21 := ⟨Try.tabOK, knOK21, by kernel_rfl⟩
theorem LOK21 : LOK Try.prog C21 0 (bodyF Try.f21) := (Lall.LOK rfl (by kernel_rfl) trivial)
noncomputable def E21 : (Int × Unit) → Option Int := fun x => S21   x.1
noncomputable def F21 : (Int × Unit) → Int := fun x => (E21 x).getD (dflt (.int .i64))
noncomputable def G21 : (Int × Unit) → Bool := fun x => (E21 x).isSome
theorem p21 : ∀ x, G21 x = true → PureOK Try.prog 21 (mkA [(.int .i64)] x) ⟨(.int .i64), F21 x⟩ :=
  PureOK.ofS (ts := [(.int .i64)]) (T := (.int .i64)) (S := E21) CxOK21 Try.func21 (LOK.fn LOK21) (fun x => t21   x.1)
noncomputable def kn22 : Kn := kOf []
theorem knOK22 : KOK Try.prog kn22 := KOK.nil
noncomputable def C22 : Cx := CxL Try.Θ kn22 (lOf [])
theorem CxOK22 : CxOK Try.prog C22 := ⟨Try.tabOK, knOK22, by kernel_rfl⟩
theorem LOK22 : LOK Try.prog C22 0 (bodyF Try.f22) := (Lall.LOK rfl (by kernel_rfl) trivial)
noncomputable def E22 : (KD0 × Unit) → Option (Int × (Bool × Unit)) := fun x => S22   x.1
noncomputable def F22 : (KD0 × Unit) → (Int × (Bool × Unit)) := fun x => (E22 x).getD (dflt KT6)
noncomputable def G22 : (KD0 × Unit) → Bool := fun x => (E22 x).isSome
theorem p22 : ∀ x, G22 x = true → PureOK Try.prog 22 (mkA [KT4] x) ⟨KT6, F22 x⟩ :=
  PureOK.ofS (ts := [KT4]) (T := KT6) (S := E22) CxOK22 Try.func22 (LOK.fn LOK22) (fun x => t22   x.1)
noncomputable def kn38 : Kn := kOf []
theorem knOK38 : KOK Try.prog kn38 := KOK.nil
noncomputable def C38 : Cx := CxL Try.Θ kn38 (lOf [])
theorem CxOK38 : CxOK Try.prog C38 := ⟨Try.tabOK, knOK38, by kernel_rfl⟩
theorem LOK38 : LOK Try.prog C38 0 (bodyF Try.f38) := (Lall.LOK rfl (by kernel_rfl) trivial)
noncomputable def E38 : (Int × Int × Unit) → Option (Int × (Int × Unit)) := fun x => S38   x.1 x.2.1
noncomputable def F38 : (Int × Int × Unit) → (Int × (Int × Unit)) := fun x => (E38 x).getD (dflt (.pair (.int .u64) KT1))
noncomputable def G38 : (Int × Int × Unit) → Bool := fun x => (E38 x).isSome
theorem p38 : ∀ x, G38 x = true → PureOK Try.prog 38 (mkA [(.int .u64), (.int .u64)] x) ⟨(.pair (.int .u64) KT1), F38 x⟩ :=
  PureOK.ofS (ts := [(.int .u64), (.int .u64)]) (T := (.pair (.int .u64) KT1)) (S := E38) CxOK38 Try.func38 (LOK.fn LOK38) (fun x => t38   x.1 x.2.1)
noncomputable def kn23 : Kn := kOf [(38, sm [(.int .u64), (.int .u64)] (.pair (.int .u64) KT1) F38 G38)]
theorem knOK23 : KOK Try.prog kn23 := (KOK.cons Try.call38 (SmOK.sm p38) KOK.nil)
noncomputable def C23 : Cx := CxL Try.Θ kn23 (lOf [])
theorem CxOK23 : CxOK Try.prog C23 := ⟨Try.tabOK, knOK23, by kernel_rfl⟩
theorem LOK23 : LOK Try.prog C23 0 (bodyF Try.f23) := (Lall.LOK rfl (by kernel_rfl) trivial)
noncomputable def E23 : ((Int × (Int × Unit)) × (Int × (Int × Unit)) × Unit) → Option KD2 := fun x => S23 F38 G38  x.1 x.2.1
noncomputable def F23 : ((Int × (Int × Unit)) × (Int × (Int × Unit)) × Unit) → KD2 := fun x => (E23 x).getD (dflt KT3)
noncomputable def G23 : ((Int × (Int × Unit)) × (Int × (Int × Unit)) × Unit) → Bool := fun x => (E23 x).isSome
theorem p23 : ∀ x, G23 x = true → PureOK Try.prog 23 (mkA [(.pair (.int .u64) KT1), (.pair (.int .u64) KT1)] x) ⟨KT3, F23 x⟩ :=
  PureOK.ofS (ts := [(.pair (.int .u64) KT1), (.pair (.int .u64) KT1)]) (T := KT3) (S := E23) CxOK23 Try.func23 (LOK.fn LOK23) (fun x => t23 F38 G38  x.1 x.2.1)
noncomputable def kn47 : Kn := kOf []
theorem knOK47 : KOK Try.prog kn47 := KOK.nil
noncomputable def C47 : Cx := CxL Try.Θ kn47 (lOf [])
theorem CxOK47 : CxOK Try.prog C47 := ⟨Try.tabOK, knOK47, by kernel_rfl⟩
theorem LOK47 : LOK Try.prog C47 0 (bodyF Try.f47) := (Lall.LOK rfl (by kernel_rfl) trivial)
noncomputable def E47 : (Int × Unit) → Option Int := fun x => S47   x.1
noncomputable def F47 : (Int × Unit) → Int := fun x => (E47 x).getD (dflt (.int .i64))
noncomputable def G47 : (Int × Unit) → Bool := fun x => (E47 x).isSome
theorem p47 : ∀ x, G47 x = true → PureOK Try.prog 47 (mkA [(.int .u64)] x) ⟨(.int .i64), F47 x⟩ :=
  PureOK.ofS (ts := [(.int .u64)]) (T := (.int .i64)) (S := E47) CxOK47 Try.func47 (LOK.fn LOK47) (fun x => t47   x.1)
noncomputable def kn46 : Kn := kOf [(38, sm [(.int .u64), (.int .u64)] (.pair (.int .u64) KT1) F38 G38), (47, sm [(.int .u64)] (.int .i64) F47 G47)]
theorem knOK46 : KOK Try.prog kn46 := (KOK.cons Try.call38 (SmOK.sm p38) (KOK.cons Try.call47 (SmOK.sm p47) KOK.nil))
noncomputable def C46 : Cx := CxL Try.Θ kn46 (lOf [])
theorem CxOK46 : CxOK Try.prog C46 := ⟨Try.tabOK, knOK46, by kernel_rfl⟩
theorem LOK46 : LOK Try.prog C46 0 (bodyF Try.f46) := (Lall.LOK rfl (by kernel_rfl) trivial)
noncomputable def E46 : (Int × Int × Unit) → Option (Int × (Int × Unit)) := fun x => S46 F38 G38 F47 G47  x.1 x.2.1
noncomputable def F46 : (Int × Int × Unit) → (Int × (Int × Unit)) := fun x => (E46 x).getD (dflt (.pair (.int .u64) KT1))
noncomputable def G46 : (Int × Int × Unit) → Bool := fun x => (E46 x).isSome
theorem p46 : ∀ x, G46 x = true → PureOK Try.prog 46 (mkA [(.int .u64), (.int .u64)] x) ⟨(.pair (.int .u64) KT1), F46 x⟩ :=
  PureOK.ofS (ts := [(.int .u64), (.int .u64)]) (T := (.pair (.int .u64) KT1)) (S := E46) CxOK46 Try.func46 (LOK.fn LOK46) (fun x => t46 F38 G38 F47 G47  x.1 x.2.1)
noncomputable def kn39 : Kn := kOf [(23, sm [(.pair (.int .u64) KT1), (.pair (.int .u64) KT1)] KT3 F23 G23), (46, sm [(.int .u64), (.int .u64)] (.pair (.int .u64) KT1) F46 G46)]
theorem knOK39 : KOK Try.prog kn39 := (KOK.cons Try.call23 (SmOK.sm p23) (KOK.cons Try.call46 (SmOK.sm p46) KOK.nil))
noncomputable def V39_0 : (Unit × Unit × Bool × Int × KD0 × KD0 × Unit) → Option ((Unit × Unit × Bool × Int × KD0 × KD0 × Unit) ⊕ (Unit × Unit × Bool × KD0 × KD0 × Unit)) := fun x => R39_0 F23 G23 F46 G46 (fun _ => ((), (), false, ((0, (0, ())), (0, (0, ()))), ((0, (0, ())), (0, (0, ()))), ())) (fun _ => false) x.1 x.2.1 x.2.2.1 x.2.2.2.1 x.2.2.2.2.1 x.2.2.2.2.2.1
noncomputable def W39_0 : (Unit × Unit × Bool × Int × KD0 × KD0 × Unit) → (Unit × Unit × Bool × KD0 × KD0 × Unit) := whV (hd := hd39_0) (ys := ys39_0) V39_0
noncomputable def Q39_0 : (Unit × Unit × Bool × Int × KD0 × KD0 × Unit) → Bool := whK (hd := hd39_0) (ys := ys39_0) V39_0
noncomputable def C39 : Cx := CxL Try.Θ kn39 (lOf [(0, orc 59 26 0 hd39_0 ys39_0 W39_0 Q39_0)])
theorem CxOK39 : CxOK Try.prog C39 := ⟨Try.tabOK, knOK39, by kernel_rfl⟩
theorem l39_0 : Lone Try.prog C39 0 (.loop (loopB 0 (bodyF Try.f39))) (orc 59 26 0 hd39_0 ys39_0 W39_0 Q39_0) :=
  Lone.of CxOK39 (Lall.LOK rfl (by kernel_rfl) (Lall.skip (by kernel_rfl) trivial)) (by kernel_rfl) (fun x => (r39_0 F23 G23 F46 G46 W39_0 Q39_0 x.1 x.2.1 x.2.2.1 x.2.2.2.1 x.2.2.2.2.1 x.2.2.2.2.2.1).trans (by rfl))
theorem LOK39 : LOK Try.prog C39 0 (bodyF Try.f39) := (Lall.LOK rfl (by kernel_rfl) (Lall.cons (by kernel_rfl) l39_0 trivial))
noncomputable def E39 : (KD0 × Unit) → Option (KD0 × (Bool × Unit)) := fun x => S39 F23 G23 F46 G46 W39_0 Q39_0 x.1
noncomputable def F39 : (KD0 × Unit) → (KD0 × (Bool × Unit)) := fun x => (E39 x).getD (dflt KT5)
noncomputable def G39 : (KD0 × Unit) → Bool := fun x => (E39 x).isSome
theorem p39 : ∀ x, G39 x = true → PureOK Try.prog 39 (mkA [KT4] x) ⟨KT5, F39 x⟩ :=
  PureOK.ofS (ts := [KT4]) (T := KT5) (S := E39) CxOK39 Try.func39 (LOK.fn LOK39) (fun x => t39 F23 G23 F46 G46 W39_0 Q39_0 x.1)
noncomputable def kn24 : Kn := kOf [(39, sm [KT4] KT5 F39 G39)]
theorem knOK24 : KOK Try.prog kn24 := (KOK.cons Try.call39 (SmOK.sm p39) KOK.nil)
noncomputable def C24 : Cx := CxL Try.Θ kn24 (lOf [])
theorem CxOK24 : CxOK Try.prog C24 := ⟨Try.tabOK, knOK24, by kernel_rfl⟩
theorem LOK24 : LOK Try.prog C24 0 (bodyF Try.f24) := (Lall.LOK rfl (by kernel_rfl) trivial)
noncomputable def E24 : (KD0 × KD0 × Bool × Unit) → Option KD7 := fun x => S24 F39 G39  x.1 x.2.1 x.2.2.1
noncomputable def F24 : (KD0 × KD0 × Bool × Unit) → KD7 := fun x => (E24 x).getD (dflt (.tup KT4 KT5))
noncomputable def G24 : (KD0 × KD0 × Bool × Unit) → Bool := fun x => (E24 x).isSome
theorem p24 : ∀ x, G24 x = true → PureOK Try.prog 24 (mkA [KT4, KT4, .bool] x) ⟨(.tup KT4 KT5), F24 x⟩ :=
  PureOK.ofS (ts := [KT4, KT4, .bool]) (T := (.tup KT4 KT5)) (S := E24) CxOK24 Try.func24 (LOK.fn LOK24) (fun x => t24 F39 G39  x.1 x.2.1 x.2.2.1)
noncomputable def kn40 : Kn := kOf []
theorem knOK40 : KOK Try.prog kn40 := KOK.nil
noncomputable def C40 : Cx := CxL Try.Θ kn40 (lOf [])
theorem CxOK40 : CxOK Try.prog C40 := ⟨Try.tabOK, knOK40, by kernel_rfl⟩
theorem LOK40 : LOK Try.prog C40 0 (bodyF Try.f40) := (Lall.LOK rfl (by kernel_rfl) trivial)
noncomputable def E40 : (KD0 × Int × Unit) → Option (KD0 × (Bool × Unit)) := fun x => S40   x.1 x.2.1
noncomputable def F40 : (KD0 × Int × Unit) → (KD0 × (Bool × Unit)) := fun x => (E40 x).getD (dflt KT5)
noncomputable def G40 : (KD0 × Int × Unit) → Bool := fun x => (E40 x).isSome
theorem p40 : ∀ x, G40 x = true → PureOK Try.prog 40 (mkA [KT4, (.int .u64)] x) ⟨KT5, F40 x⟩ :=
  PureOK.ofS (ts := [KT4, (.int .u64)]) (T := KT5) (S := E40) CxOK40 Try.func40 (LOK.fn LOK40) (fun x => t40   x.1 x.2.1)
noncomputable def kn25 : Kn := kOf [(22, sm [KT4] KT6 F22 G22), (24, sm [KT4, KT4, .bool] (.tup KT4 KT5) F24 G24), (40, sm [KT4, (.int .u64)] KT5 F40 G40)]
theorem knOK25 : KOK Try.prog kn25 := (KOK.cons Try.call22 (SmOK.sm p22) (KOK.cons Try.call24 (SmOK.sm p24) (KOK.cons Try.call40 (SmOK.sm p40) KOK.nil)))
noncomputable def C25 : Cx := CxL Try.Θ kn25 (lOf [])
theorem CxOK25 : CxOK Try.prog C25 := ⟨Try.tabOK, knOK25, by kernel_rfl⟩
theorem LOK25 : LOK Try.prog C25 0 (bodyF Try.f25) := (Lall.LOK rfl (by kernel_rfl) trivial)
noncomputable def E25 : (KD0 × KD0 × Unit) → Option KD7 := fun x => S25 F22 G22 F24 G24 F40 G40  x.1 x.2.1
noncomputable def F25 : (KD0 × KD0 × Unit) → KD7 := fun x => (E25 x).getD (dflt (.tup KT4 KT5))
noncomputable def G25 : (KD0 × KD0 × Unit) → Bool := fun x => (E25 x).isSome
theorem p25 : ∀ x, G25 x = true → PureOK Try.prog 25 (mkA [KT4, KT4] x) ⟨(.tup KT4 KT5), F25 x⟩ :=
  PureOK.ofS (ts := [KT4, KT4]) (T := (.tup KT4 KT5)) (S := E25) CxOK25 Try.func25 (LOK.fn LOK25) (fun x => t25 F22 G22 F24 G24 F40 G40  x.1 x.2.1)
noncomputable def kn8_16 : Kn := kOf [(12, sm [(.int .i64)] (.int .i64) (fun _ => 80) (fun x => G12 x && decide (F12 x = 80))), (21, sm [(.int .i64)] (.int .i64) (fun _ => 16) (fun x => G21 x && decide (F21 x = 16))), (22, sm [KT4] KT6 F22 G22), (23, sm [(.pair (.int .u64) KT1), (.pair (.int .u64) KT1)] KT3 F23 G23), (24, sm [KT4, KT4, .bool] (.tup KT4 KT5) F24 G24)]
theorem knOK8_16 : KOK Try.prog kn8_16 := (KOK.cons Try.call12 (SmOK.sm (constP (ts := [(.int .i64)]) (T := (.int .i64)) (F := F12) (G := G12) (c := 80) p12)) (KOK.cons Try.call21 (SmOK.sm (constP (ts := [(.int .i64)]) (T := (.int .i64)) (F := F21) (G := G21) (c := 16) p21)) (KOK.cons Try.call22 (SmOK.sm p22) (KOK.cons Try.call23 (SmOK.sm p23) (KOK.cons Try.call24 (SmOK.sm p24) KOK.nil)))))
noncomputable def C8_16 : Cx := CxL Try.Θ kn8_16 (lOf [])
theorem CxOK8_16 : CxOK Try.prog C8_16 := ⟨Try.tabOK, knOK8_16, by kernel_rfl⟩
theorem LOK8_16 : LOK Try.prog C8_16 0 (bodyF Try.f8) := (Lall.LOK rfl (by kernel_rfl) trivial)
noncomputable def E8_16 : (Bool × KD0 × KD0 × Unit) → Option KD7 := fun x => S8_16 (fun x => G12 x && decide (F12 x = 80)) (fun x => G21 x && decide (F21 x = 16)) F22 G22 F23 G23 F24 G24  x.1 x.2.1 x.2.2.1
theorem p8_16 : ∀ x : (Bool × KD0 × KD0 × Unit), (E8_16 x).isSome = true → PureOK Try.prog 8 (mkA [(.int .i64), .bool, KT4, KT4] (16, x.1, x.2.1, x.2.2.1, ())) ⟨(.tup KT4 KT5), (E8_16 x).getD (dflt (.tup KT4 KT5))⟩ :=
  fun x => PureOK.of1 CxOK8_16 Try.func8 (LOK.fn LOK8_16) (t8_16 (fun x => G12 x && decide (F12 x = 80)) (fun x => G21 x && decide (F21 x = 16)) F22 G22 F23 G23 F24 G24  x.1 x.2.1 x.2.2.1)
noncomputable def kn8_32 : Kn := kOf [(12, sm [(.int .i64)] (.int .i64) (fun _ => 176) (fun x => G12 x && decide (F12 x = 176))), (21, sm [(.int .i64)] (.int .i64) (fun _ => 32) (fun x => G21 x && decide (F21 x = 32))), (22, sm [KT4] KT6 F22 G22), (24, sm [KT4, KT4, .bool] (.tup KT4 KT5) F24 G24)]
theorem knOK8_32 : KOK Try.prog kn8_32 := (KOK.cons Try.call12 (SmOK.sm (constP (ts := [(.int .i64)]) (T := (.int .i64)) (F := F12) (G := G12) (c := 176) p12)) (KOK.cons Try.call21 (SmOK.sm (constP (ts := [(.int .i64)]) (T := (.int .i64)) (F := F21) (G := G21) (c := 32) p21)) (KOK.cons Try.call22 (SmOK.sm p22) (KOK.cons Try.call24 (SmOK.sm p24) KOK.nil))))
noncomputable def C8_32 : Cx := CxL Try.Θ kn8_32 (lOf [])
theorem CxOK8_32 : CxOK Try.prog C8_32 := ⟨Try.tabOK, knOK8_32, by kernel_rfl⟩
theorem LOK8_32 : LOK Try.prog C8_32 0 (bodyF Try.f8) := (Lall.LOK rfl (by kernel_rfl) trivial)
noncomputable def E8_32 : (Bool × KD0 × KD0 × Unit) → Option KD7 := fun x => S8_32 (fun x => G12 x && decide (F12 x = 176)) (fun x => G21 x && decide (F21 x = 32)) F22 G22 F24 G24  x.1 x.2.1 x.2.2.1
theorem p8_32 : ∀ x : (Bool × KD0 × KD0 × Unit), (E8_32 x).isSome = true → PureOK Try.prog 8 (mkA [(.int .i64), .bool, KT4, KT4] (32, x.1, x.2.1, x.2.2.1, ())) ⟨(.tup KT4 KT5), (E8_32 x).getD (dflt (.tup KT4 KT5))⟩ :=
  fun x => PureOK.of1 CxOK8_32 Try.func8 (LOK.fn LOK8_32) (t8_32 (fun x => G12 x && decide (F12 x = 176)) (fun x => G21 x && decide (F21 x = 32)) F22 G22 F24 G24  x.1 x.2.1 x.2.2.1)
noncomputable def kn8_48 : Kn := kOf [(12, sm [(.int .i64)] (.int .i64) (fun _ => 160) (fun x => G12 x && decide (F12 x = 160))), (21, sm [(.int .i64)] (.int .i64) (fun _ => 48) (fun x => G21 x && decide (F21 x = 48))), (22, sm [KT4] KT6 F22 G22), (24, sm [KT4, KT4, .bool] (.tup KT4 KT5) F24 G24)]
theorem knOK8_48 : KOK Try.prog kn8_48 := (KOK.cons Try.call12 (SmOK.sm (constP (ts := [(.int .i64)]) (T := (.int .i64)) (F := F12) (G := G12) (c := 160) p12)) (KOK.cons Try.call21 (SmOK.sm (constP (ts := [(.int .i64)]) (T := (.int .i64)) (F := F21) (G := G21) (c := 48) p21)) (KOK.cons Try.call22 (SmOK.sm p22) (KOK.cons Try.call24 (SmOK.sm p24) KOK.nil))))
noncomputable def C8_48 : Cx := CxL Try.Θ kn8_48 (lOf [])
theorem CxOK8_48 : CxOK Try.prog C8_48 := ⟨Try.tabOK, knOK8_48, by kernel_rfl⟩
theorem LOK8_48 : LOK Try.prog C8_48 0 (bodyF Try.f8) := (Lall.LOK rfl (by kernel_rfl) trivial)
noncomputable def E8_48 : (Bool × KD0 × KD0 × Unit) → Option KD7 := fun x => S8_48 (fun x => G12 x && decide (F12 x = 160)) (fun x => G21 x && decide (F21 x = 48)) F22 G22 F24 G24  x.1 x.2.1 x.2.2.1
theorem p8_48 : ∀ x : (Bool × KD0 × KD0 × Unit), (E8_48 x).isSome = true → PureOK Try.prog 8 (mkA [(.int .i64), .bool, KT4, KT4] (48, x.1, x.2.1, x.2.2.1, ())) ⟨(.tup KT4 KT5), (E8_48 x).getD (dflt (.tup KT4 KT5))⟩ :=
  fun x => PureOK.of1 CxOK8_48 Try.func8 (LOK.fn LOK8_48) (t8_48 (fun x => G12 x && decide (F12 x = 160)) (fun x => G21 x && decide (F21 x = 48)) F22 G22 F24 G24  x.1 x.2.1 x.2.2.1)
noncomputable def kn8_64 : Kn := kOf [(12, sm [(.int .i64)] (.int .i64) (fun _ => 68) (fun x => G12 x && decide (F12 x = 68))), (21, sm [(.int .i64)] (.int .i64) (fun _ => 64) (fun x => G21 x && decide (F21 x = 64))), (22, sm [KT4] KT6 F22 G22), (24, sm [KT4, KT4, .bool] (.tup KT4 KT5) F24 G24)]
theorem knOK8_64 : KOK Try.prog kn8_64 := (KOK.cons Try.call12 (SmOK.sm (constP (ts := [(.int .i64)]) (T := (.int .i64)) (F := F12) (G := G12) (c := 68) p12)) (KOK.cons Try.call21 (SmOK.sm (constP (ts := [(.int .i64)]) (T := (.int .i64)) (F := F21) (G := G21) (c := 64) p21)) (KOK.cons Try.call22 (SmOK.sm p22) (KOK.cons Try.call24 (SmOK.sm p24) KOK.nil))))
noncomputable def C8_64 : Cx := CxL Try.Θ kn8_64 (lOf [])
theorem CxOK8_64 : CxOK Try.prog C8_64 := ⟨Try.tabOK, knOK8_64, by kernel_rfl⟩
theorem LOK8_64 : LOK Try.prog C8_64 0 (bodyF Try.f8) := (Lall.LOK rfl (by kernel_rfl) trivial)
noncomputable def E8_64 : (Bool × KD0 × KD0 × Unit) → Option KD7 := fun x => S8_64 (fun x => G12 x && decide (F12 x = 68)) (fun x => G21 x && decide (F21 x = 64)) F22 G22 F24 G24  x.1 x.2.1 x.2.2.1
theorem p8_64 : ∀ x : (Bool × KD0 × KD0 × Unit), (E8_64 x).isSome = true → PureOK Try.prog 8 (mkA [(.int .i64), .bool, KT4, KT4] (64, x.1, x.2.1, x.2.2.1, ())) ⟨(.tup KT4 KT5), (E8_64 x).getD (dflt (.tup KT4 KT5))⟩ :=
  fun x => PureOK.of1 CxOK8_64 Try.func8 (LOK.fn LOK8_64) (t8_64 (fun x => G12 x && decide (F12 x = 68)) (fun x => G21 x && decide (F21 x = 64)) F22 G22 F24 G24  x.1 x.2.1 x.2.2.1)
noncomputable def kn8_68 : Kn := kOf [(12, sm [(.int .i64)] (.int .i64) (fun _ => 64) (fun x => G12 x && decide (F12 x = 64))), (21, sm [(.int .i64)] (.int .i64) (fun _ => 68) (fun x => G21 x && decide (F21 x = 68))), (22, sm [KT4] KT6 F22 G22), (24, sm [KT4, KT4, .bool] (.tup KT4 KT5) F24 G24)]
theorem knOK8_68 : KOK Try.prog kn8_68 := (KOK.cons Try.call12 (SmOK.sm (constP (ts := [(.int .i64)]) (T := (.int .i64)) (F := F12) (G := G12) (c := 64) p12)) (KOK.cons Try.call21 (SmOK.sm (constP (ts := [(.int .i64)]) (T := (.int .i64)) (F := F21) (G := G21) (c := 68) p21)) (KOK.cons Try.call22 (SmOK.sm p22) (KOK.cons Try.call24 (SmOK.sm p24) KOK.nil))))
noncomputable def C8_68 : Cx := CxL Try.Θ kn8_68 (lOf [])
theorem CxOK8_68 : CxOK Try.prog C8_68 := ⟨Try.tabOK, knOK8_68, by kernel_rfl⟩
theorem LOK8_68 : LOK Try.prog C8_68 0 (bodyF Try.f8) := (Lall.LOK rfl (by kernel_rfl) trivial)
noncomputable def E8_68 : (Bool × KD0 × KD0 × Unit) → Option KD7 := fun x => S8_68 (fun x => G12 x && decide (F12 x = 64)) (fun x => G21 x && decide (F21 x = 68)) F22 G22 F24 G24  x.1 x.2.1 x.2.2.1
theorem p8_68 : ∀ x : (Bool × KD0 × KD0 × Unit), (E8_68 x).isSome = true → PureOK Try.prog 8 (mkA [(.int .i64), .bool, KT4, KT4] (68, x.1, x.2.1, x.2.2.1, ())) ⟨(.tup KT4 KT5), (E8_68 x).getD (dflt (.tup KT4 KT5))⟩ :=
  fun x => PureOK.of1 CxOK8_68 Try.func8 (LOK.fn LOK8_68) (t8_68 (fun x => G12 x && decide (F12 x = 64)) (fun x => G21 x && decide (F21 x = 68)) F22 G22 F24 G24  x.1 x.2.1 x.2.2.1)
noncomputable def kn8_80 : Kn := kOf [(12, sm [(.int .i64)] (.int .i64) (fun _ => 16) (fun x => G12 x && decide (F12 x = 16))), (21, sm [(.int .i64)] (.int .i64) (fun _ => 80) (fun x => G21 x && decide (F21 x = 80))), (22, sm [KT4] KT6 F22 G22), (25, sm [KT4, KT4] (.tup KT4 KT5) F25 G25)]
theorem knOK8_80 : KOK Try.prog kn8_80 := (KOK.cons Try.call12 (SmOK.sm (constP (ts := [(.int .i64)]) (T := (.int .i64)) (F := F12) (G := G12) (c := 16) p12)) (KOK.cons Try.call21 (SmOK.sm (constP (ts := [(.int .i64)]) (T := (.int .i64)) (F := F21) (G := G21) (c := 80) p21)) (KOK.cons Try.call22 (SmOK.sm p22) (KOK.cons Try.call25 (SmOK.sm p25) KOK.nil))))
noncomputable def C8_80 : Cx := CxL Try.Θ kn8_80 (lOf [])
theorem CxOK8_80 : CxOK Try.prog C8_80 := ⟨Try.tabOK, knOK8_80, by kernel_rfl⟩
theorem LOK8_80 : LOK Try.prog C8_80 0 (bodyF Try.f8) := (Lall.LOK rfl (by kernel_rfl) trivial)
noncomputable def E8_80 : (Bool × KD0 × KD0 × Unit) → Option KD7 := fun x => S8_80 (fun x => G12 x && decide (F12 x = 16)) (fun x => G21 x && decide (F21 x = 80)) F22 G22 F25 G25  x.1 x.2.1 x.2.2.1
theorem p8_80 : ∀ x : (Bool × KD0 × KD0 × Unit), (E8_80 x).isSome = true → PureOK Try.prog 8 (mkA [(.int .i64), .bool, KT4, KT4] (80, x.1, x.2.1, x.2.2.1, ())) ⟨(.tup KT4 KT5), (E8_80 x).getD (dflt (.tup KT4 KT5))⟩ :=
  fun x => PureOK.of1 CxOK8_80 Try.func8 (LOK.fn LOK8_80) (t8_80 (fun x => G12 x && decide (F12 x = 16)) (fun x => G21 x && decide (F21 x = 80)) F22 G22 F25 G25  x.1 x.2.1 x.2.2.1)
noncomputable def kn8_96 : Kn := kOf [(12, sm [(.int .i64)] (.int .i64) (fun _ => 208) (fun x => G12 x && decide (F12 x = 208))), (21, sm [(.int .i64)] (.int .i64) (fun _ => 32) (fun x => G21 x && decide (F21 x = 32))), (22, sm [KT4] KT6 F22 G22), (24, sm [KT4, KT4, .bool] (.tup KT4 KT5) F24 G24)]
theorem knOK8_96 : KOK Try.prog kn8_96 := (KOK.cons Try.call12 (SmOK.sm (constP (ts := [(.int .i64)]) (T := (.int .i64)) (F := F12) (G := G12) (c := 208) p12)) (KOK.cons Try.call21 (SmOK.sm (constP (ts := [(.int .i64)]) (T := (.int .i64)) (F := F21) (G := G21) (c := 32) p21)) (KOK.cons Try.call22 (SmOK.sm p22) (KOK.cons Try.call24 (SmOK.sm p24) KOK.nil))))
noncomputable def C8_96 : Cx := CxL Try.Θ kn8_96 (lOf [])
theorem CxOK8_96 : CxOK Try.prog C8_96 := ⟨Try.tabOK, knOK8_96, by kernel_rfl⟩
theorem LOK8_96 : LOK Try.prog C8_96 0 (bodyF Try.f8) := (Lall.LOK rfl (by kernel_rfl) trivial)
noncomputable def E8_96 : (Bool × KD0 × KD0 × Unit) → Option KD7 := fun x => S8_96 (fun x => G12 x && decide (F12 x = 208)) (fun x => G21 x && decide (F21 x = 32)) F22 G22 F24 G24  x.1 x.2.1 x.2.2.1
theorem p8_96 : ∀ x : (Bool × KD0 × KD0 × Unit), (E8_96 x).isSome = true → PureOK Try.prog 8 (mkA [(.int .i64), .bool, KT4, KT4] (96, x.1, x.2.1, x.2.2.1, ())) ⟨(.tup KT4 KT5), (E8_96 x).getD (dflt (.tup KT4 KT5))⟩ :=
  fun x => PureOK.of1 CxOK8_96 Try.func8 (LOK.fn LOK8_96) (t8_96 (fun x => G12 x && decide (F12 x = 208)) (fun x => G21 x && decide (F21 x = 32)) F22 G22 F24 G24  x.1 x.2.1 x.2.2.1)
noncomputable def kn8_112 : Kn := kOf [(12, sm [(.int .i64)] (.int .i64) (fun _ => 192) (fun x => G12 x && decide (F12 x = 192))), (21, sm [(.int .i64)] (.int .i64) (fun _ => 48) (fun x => G21 x && decide (F21 x = 48))), (22, sm [KT4] KT6 F22 G22), (24, sm [KT4, KT4, .bool] (.tup KT4 KT5) F24 G24)]
theorem knOK8_112 : KOK Try.prog kn8_112 := (KOK.cons Try.call12 (SmOK.sm (constP (ts := [(.int .i64)]) (T := (.int .i64)) (F := F12) (G := G12) (c := 192) p12)) (KOK.cons Try.call21 (SmOK.sm (constP (ts := [(.int .i64)]) (T := (.int .i64)) (F := F21) (G := G21) (c := 48) p21)) (KOK.cons Try.call22 (SmOK.sm p22) (KOK.cons Try.call24 (SmOK.sm p24) KOK.nil))))
noncomputable def C8_112 : Cx := CxL Try.Θ kn8_112 (lOf [])
theorem CxOK8_112 : CxOK Try.prog C8_112 := ⟨Try.tabOK, knOK8_112, by kernel_rfl⟩
theorem LOK8_112 : LOK Try.prog C8_112 0 (bodyF Try.f8) := (Lall.LOK rfl (by kernel_rfl) trivial)
noncomputable def E8_112 : (Bool × KD0 × KD0 × Unit) → Option KD7 := fun x => S8_112 (fun x => G12 x && decide (F12 x = 192)) (fun x => G21 x && decide (F21 x = 48)) F22 G22 F24 G24  x.1 x.2.1 x.2.2.1
theorem p8_112 : ∀ x : (Bool × KD0 × KD0 × Unit), (E8_112 x).isSome = true → PureOK Try.prog 8 (mkA [(.int .i64), .bool, KT4, KT4] (112, x.1, x.2.1, x.2.2.1, ())) ⟨(.tup KT4 KT5), (E8_112 x).getD (dflt (.tup KT4 KT5))⟩ :=
  fun x => PureOK.of1 CxOK8_112 Try.func8 (LOK.fn LOK8_112) (t8_112 (fun x => G12 x && decide (F12 x = 192)) (fun x => G21 x && decide (F21 x = 48)) F22 G22 F24 G24  x.1 x.2.1 x.2.2.1)
noncomputable def kn8_160 : Kn := kOf [(12, sm [(.int .i64)] (.int .i64) (fun _ => 48) (fun x => G12 x && decide (F12 x = 48))), (21, sm [(.int .i64)] (.int .i64) (fun _ => 160) (fun x => G21 x && decide (F21 x = 160))), (22, sm [KT4] KT6 F22 G22), (24, sm [KT4, KT4, .bool] (.tup KT4 KT5) F24 G24)]
theorem knOK8_160 : KOK Try.prog kn8_160 := (KOK.cons Try.call12 (SmOK.sm (constP (ts := [(.int .i64)]) (T := (.int .i64)) (F := F12) (G := G12) (c := 48) p12)) (KOK.cons Try.call21 (SmOK.sm (constP (ts := [(.int .i64)]) (T := (.int .i64)) (F := F21) (G := G21) (c := 160) p21)) (KOK.cons Try.call22 (SmOK.sm p22) (KOK.cons Try.call24 (SmOK.sm p24) KOK.nil))))
noncomputable def C8_160 : Cx := CxL Try.Θ kn8_160 (lOf [])
theorem CxOK8_160 : CxOK Try.prog C8_160 := ⟨Try.tabOK, knOK8_160, by kernel_rfl⟩
theorem LOK8_160 : LOK Try.prog C8_160 0 (bodyF Try.f8) := (Lall.LOK rfl (by kernel_rfl) trivial)
noncomputable def E8_160 : (Bool × KD0 × KD0 × Unit) → Option KD7 := fun x => S8_160 (fun x => G12 x && decide (F12 x = 48)) (fun x => G21 x && decide (F21 x = 160)) F22 G22 F24 G24  x.1 x.2.1 x.2.2.1
theorem p8_160 : ∀ x : (Bool × KD0 × KD0 × Unit), (E8_160 x).isSome = true → PureOK Try.prog 8 (mkA [(.int .i64), .bool, KT4, KT4] (160, x.1, x.2.1, x.2.2.1, ())) ⟨(.tup KT4 KT5), (E8_160 x).getD (dflt (.tup KT4 KT5))⟩ :=
  fun x => PureOK.of1 CxOK8_160 Try.func8 (LOK.fn LOK8_160) (t8_160 (fun x => G12 x && decide (F12 x = 48)) (fun x => G21 x && decide (F21 x = 160)) F22 G22 F24 G24  x.1 x.2.1 x.2.2.1)
noncomputable def kn8_176 : Kn := kOf [(12, sm [(.int .i64)] (.int .i64) (fun _ => 32) (fun x => G12 x && decide (F12 x = 32))), (21, sm [(.int .i64)] (.int .i64) (fun _ => 176) (fun x => G21 x && decide (F21 x = 176))), (22, sm [KT4] KT6 F22 G22), (24, sm [KT4, KT4, .bool] (.tup KT4 KT5) F24 G24)]
theorem knOK8_176 : KOK Try.prog kn8_176 := (KOK.cons Try.call12 (SmOK.sm (constP (ts := [(.int .i64)]) (T := (.int .i64)) (F := F12) (G := G12) (c := 32) p12)) (KOK.cons Try.call21 (SmOK.sm (constP (ts := [(.int .i64)]) (T := (.int .i64)) (F := F21) (G := G21) (c := 176) p21)) (KOK.cons Try.call22 (SmOK.sm p22) (KOK.cons Try.call24 (SmOK.sm p24) KOK.nil))))
noncomputable def C8_176 : Cx := CxL Try.Θ kn8_176 (lOf [])
theorem CxOK8_176 : CxOK Try.prog C8_176 := ⟨Try.tabOK, knOK8_176, by kernel_rfl⟩
theorem LOK8_176 : LOK Try.prog C8_176 0 (bodyF Try.f8) := (Lall.LOK rfl (by kernel_rfl) trivial)
noncomputable def E8_176 : (Bool × KD0 × KD0 × Unit) → Option KD7 := fun x => S8_176 (fun x => G12 x && decide (F12 x = 32)) (fun x => G21 x && decide (F21 x = 176)) F22 G22 F24 G24  x.1 x.2.1 x.2.2.1
theorem p8_176 : ∀ x : (Bool × KD0 × KD0 × Unit), (E8_176 x).isSome = true → PureOK Try.prog 8 (mkA [(.int .i64), .bool, KT4, KT4] (176, x.1, x.2.1, x.2.2.1, ())) ⟨(.tup KT4 KT5), (E8_176 x).getD (dflt (.tup KT4 KT5))⟩ :=
  fun x => PureOK.of1 CxOK8_176 Try.func8 (LOK.fn LOK8_176) (t8_176 (fun x => G12 x && decide (F12 x = 32)) (fun x => G21 x && decide (F21 x = 176)) F22 G22 F24 G24  x.1 x.2.1 x.2.2.1)
noncomputable def kn8_192 : Kn := kOf [(12, sm [(.int .i64)] (.int .i64) (fun _ => 112) (fun x => G12 x && decide (F12 x = 112))), (21, sm [(.int .i64)] (.int .i64) (fun _ => 160) (fun x => G21 x && decide (F21 x = 160))), (22, sm [KT4] KT6 F22 G22), (24, sm [KT4, KT4, .bool] (.tup KT4 KT5) F24 G24)]
theorem knOK8_192 : KOK Try.prog kn8_192 := (KOK.cons Try.call12 (SmOK.sm (constP (ts := [(.int .i64)]) (T := (.int .i64)) (F := F12) (G := G12) (c := 112) p12)) (KOK.cons Try.call21 (SmOK.sm (constP (ts := [(.int .i64)]) (T := (.int .i64)) (F := F21) (G := G21) (c := 160) p21)) (KOK.cons Try.call22 (SmOK.sm p22) (KOK.cons Try.call24 (SmOK.sm p24) KOK.nil))))
noncomputable def C8_192 : Cx := CxL Try.Θ kn8_192 (lOf [])
theorem CxOK8_192 : CxOK Try.prog C8_192 := ⟨Try.tabOK, knOK8_192, by kernel_rfl⟩
theorem LOK8_192 : LOK Try.prog C8_192 0 (bodyF Try.f8) := (Lall.LOK rfl (by kernel_rfl) trivial)
noncomputable def E8_192 : (Bool × KD0 × KD0 × Unit) → Option KD7 := fun x => S8_192 (fun x => G12 x && decide (F12 x = 112)) (fun x => G21 x && decide (F21 x = 160)) F22 G22 F24 G24  x.1 x.2.1 x.2.2.1
theorem p8_192 : ∀ x : (Bool × KD0 × KD0 × Unit), (E8_192 x).isSome = true → PureOK Try.prog 8 (mkA [(.int .i64), .bool, KT4, KT4] (192, x.1, x.2.1, x.2.2.1, ())) ⟨(.tup KT4 KT5), (E8_192 x).getD (dflt (.tup KT4 KT5))⟩ :=
  fun x => PureOK.of1 CxOK8_192 Try.func8 (LOK.fn LOK8_192) (t8_192 (fun x => G12 x && decide (F12 x = 112)) (fun x => G21 x && decide (F21 x = 160)) F22 G22 F24 G24  x.1 x.2.1 x.2.2.1)
noncomputable def kn8_208 : Kn := kOf [(12, sm [(.int .i64)] (.int .i64) (fun _ => 96) (fun x => G12 x && decide (F12 x = 96))), (21, sm [(.int .i64)] (.int .i64) (fun _ => 176) (fun x => G21 x && decide (F21 x = 176))), (22, sm [KT4] KT6 F22 G22), (24, sm [KT4, KT4, .bool] (.tup KT4 KT5) F24 G24)]
theorem knOK8_208 : KOK Try.prog kn8_208 := (KOK.cons Try.call12 (SmOK.sm (constP (ts := [(.int .i64)]) (T := (.int .i64)) (F := F12) (G := G12) (c := 96) p12)) (KOK.cons Try.call21 (SmOK.sm (constP (ts := [(.int .i64)]) (T := (.int .i64)) (F := F21) (G := G21) (c := 176) p21)) (KOK.cons Try.call22 (SmOK.sm p22) (KOK.cons Try.call24 (SmOK.sm p24) KOK.nil))))
noncomputable def C8_208 : Cx := CxL Try.Θ kn8_208 (lOf [])
theorem CxOK8_208 : CxOK Try.prog C8_208 := ⟨Try.tabOK, knOK8_208, by kernel_rfl⟩
theorem LOK8_208 : LOK Try.prog C8_208 0 (bodyF Try.f8) := (Lall.LOK rfl (by kernel_rfl) trivial)
noncomputable def E8_208 : (Bool × KD0 × KD0 × Unit) → Option KD7 := fun x => S8_208 (fun x => G12 x && decide (F12 x = 96)) (fun x => G21 x && decide (F21 x = 176)) F22 G22 F24 G24  x.1 x.2.1 x.2.2.1
theorem p8_208 : ∀ x : (Bool × KD0 × KD0 × Unit), (E8_208 x).isSome = true → PureOK Try.prog 8 (mkA [(.int .i64), .bool, KT4, KT4] (208, x.1, x.2.1, x.2.2.1, ())) ⟨(.tup KT4 KT5), (E8_208 x).getD (dflt (.tup KT4 KT5))⟩ :=
  fun x => PureOK.of1 CxOK8_208 Try.func8 (LOK.fn LOK8_208) (t8_208 (fun x => G12 x && decide (F12 x = 96)) (fun x => G21 x && decide (F21 x = 176)) F22 G22 F24 G24  x.1 x.2.1 x.2.2.1)
noncomputable def kn8_n : Kn := kOf [(12, sm [(.int .i64)] (.int .i64) (fun _ => (-1)) (fun x => G12 x && decide (F12 x = (-1))))]
theorem knOK8_n : KOK Try.prog kn8_n := (KOK.cons Try.call12 (SmOK.sm (constP (ts := [(.int .i64)]) (T := (.int .i64)) (F := F12) (G := G12) (c := (-1)) p12)) KOK.nil)
noncomputable def C8_n : Cx := CxL Try.Θ kn8_n (lOf [])
theorem CxOK8_n : CxOK Try.prog C8_n := ⟨Try.tabOK, knOK8_n, by kernel_rfl⟩
theorem LOK8_n : LOK Try.prog C8_n 0 (bodyF Try.f8) := (Lall.LOK rfl (by kernel_rfl) trivial)
noncomputable def E8_n : (Int × Bool × KD0 × KD0 × Unit) → Option KD7 := fun x => S8_n (fun x => G12 x && decide (F12 x = (-1)))  x.1 x.2.1 x.2.2.1 x.2.2.2.1
noncomputable def F8_n : (Int × Bool × KD0 × KD0 × Unit) → KD7 := fun x => (E8_n x).getD (dflt (.tup KT4 KT5))
noncomputable def G8_n : (Int × Bool × KD0 × KD0 × Unit) → Bool := fun x => (E8_n x).isSome
theorem p8_n : ∀ x, G8_n x = true → PureOK Try.prog 8 (mkA [(.int .i64), .bool, KT4, KT4] x) ⟨(.tup KT4 KT5), F8_n x⟩ :=
  PureOK.ofS (ts := [(.int .i64), .bool, KT4, KT4]) (T := (.tup KT4 KT5)) (S := E8_n) CxOK8_n Try.func8 (LOK.fn LOK8_n) (fun x => t8_n (fun x => G12 x && decide (F12 x = (-1)))  x.1 x.2.1 x.2.2.1 x.2.2.2.1)
noncomputable def E8 : (Int × Bool × KD0 × KD0 × Unit) → Option KD7 := fun x => if x.1 = 16 then E8_16 x.2 else (if x.1 = 32 then E8_32 x.2 else (if x.1 = 48 then E8_48 x.2 else (if x.1 = 64 then E8_64 x.2 else (if x.1 = 68 then E8_68 x.2 else (if x.1 = 80 then E8_80 x.2 else (if x.1 = 96 then E8_96 x.2 else (if x.1 = 112 then E8_112 x.2 else (if x.1 = 160 then E8_160 x.2 else (if x.1 = 176 then E8_176 x.2 else (if x.1 = 192 then E8_192 x.2 else (if x.1 = 208 then E8_208 x.2 else (E8_n x))))))))))))
noncomputable def F8 : (Int × Bool × KD0 × KD0 × Unit) → KD7 := fun x => (E8 x).getD (dflt (.tup KT4 KT5))
noncomputable def G8 : (Int × Bool × KD0 × KD0 × Unit) → Bool := fun x => (E8 x).isSome
theorem p8 : ∀ x, G8 x = true → PureOK Try.prog 8 (mkA [(.int .i64), .bool, KT4, KT4] x) ⟨(.tup KT4 KT5), F8 x⟩ := fun x => (PureOK.iteE (T := (.tup KT4 KT5)) (c := x.1 = 16) (a := E8_16 x.2) (b := if x.1 = 32 then E8_32 x.2 else (if x.1 = 48 then E8_48 x.2 else (if x.1 = 64 then E8_64 x.2 else (if x.1 = 68 then E8_68 x.2 else (if x.1 = 80 then E8_80 x.2 else (if x.1 = 96 then E8_96 x.2 else (if x.1 = 112 then E8_112 x.2 else (if x.1 = 160 then E8_160 x.2 else (if x.1 = 176 then E8_176 x.2 else (if x.1 = 192 then E8_192 x.2 else (if x.1 = 208 then E8_208 x.2 else (E8_n x)))))))))))) (fun e => by have h := p8_16 x.2; rw [show ((16 : Int), x.2) = x from Prod.ext e.symm rfl] at h; exact h) (fun _ => (PureOK.iteE (T := (.tup KT4 KT5)) (c := x.1 = 32) (a := E8_32 x.2) (b := if x.1 = 48 then E8_48 x.2 else (if x.1 = 64 then E8_64 x.2 else (if x.1 = 68 then E8_68 x.2 else (if x.1 = 80 then E8_80 x.2 else (if x.1 = 96 then E8_96 x.2 else (if x.1 = 112 then E8_112 x.2 else (if x.1 = 160 then E8_160 x.2 else (if x.1 = 176 then E8_176 x.2 else (if x.1 = 192 then E8_192 x.2 else (if x.1 = 208 then E8_208 x.2 else (E8_n x))))))))))) (fun e => by have h := p8_32 x.2; rw [show ((32 : Int), x.2) = x from Prod.ext e.symm rfl] at h; exact h) (fun _ => (PureOK.iteE (T := (.tup KT4 KT5)) (c := x.1 = 48) (a := E8_48 x.2) (b := if x.1 = 64 then E8_64 x.2 else (if x.1 = 68 then E8_68 x.2 else (if x.1 = 80 then E8_80 x.2 else (if x.1 = 96 then E8_96 x.2 else (if x.1 = 112 then E8_112 x.2 else (if x.1 = 160 then E8_160 x.2 else (if x.1 = 176 then E8_176 x.2 else (if x.1 = 192 then E8_192 x.2 else (if x.1 = 208 then E8_208 x.2 else (E8_n x)))))))))) (fun e => by have h := p8_48 x.2; rw [show ((48 : Int), x.2) = x from Prod.ext e.symm rfl] at h; exact h) (fun _ => (PureOK.iteE (T := (.tup KT4 KT5)) (c := x.1 = 64) (a := E8_64 x.2) (b := if x.1 = 68 then E8_68 x.2 else (if x.1 = 80 then E8_80 x.2 else (if x.1 = 96 then E8_96 x.2 else (if x.1 = 112 then E8_112 x.2 else (if x.1 = 160 then E8_160 x.2 else (if x.1 = 176 then E8_176 x.2 else (if x.1 = 192 then E8_192 x.2 else (if x.1 = 208 then E8_208 x.2 else (E8_n x))))))))) (fun e => by have h := p8_64 x.2; rw [show ((64 : Int), x.2) = x from Prod.ext e.symm rfl] at h; exact h) (fun _ => (PureOK.iteE (T := (.tup KT4 KT5)) (c := x.1 = 68) (a := E8_68 x.2) (b := if x.1 = 80 then E8_80 x.2 else (if x.1 = 96 then E8_96 x.2 else (if x.1 = 112 then E8_112 x.2 else (if x.1 = 160 then E8_160 x.2 else (if x.1 = 176 then E8_176 x.2 else (if x.1 = 192 then E8_192 x.2 else (if x.1 = 208 then E8_208 x.2 else (E8_n x)))))))) (fun e => by have h := p8_68 x.2; rw [show ((68 : Int), x.2) = x from Prod.ext e.symm rfl] at h; exact h) (fun _ => (PureOK.iteE (T := (.tup KT4 KT5)) (c := x.1 = 80) (a := E8_80 x.2) (b := if x.1 = 96 then E8_96 x.2 else (if x.1 = 112 then E8_112 x.2 else (if x.1 = 160 then E8_160 x.2 else (if x.1 = 176 then E8_176 x.2 else (if x.1 = 192 then E8_192 x.2 else (if x.1 = 208 then E8_208 x.2 else (E8_n x))))))) (fun e => by have h := p8_80 x.2; rw [show ((80 : Int), x.2) = x from Prod.ext e.symm rfl] at h; exact h) (fun _ => (PureOK.iteE (T := (.tup KT4 KT5)) (c := x.1 = 96) (a := E8_96 x.2) (b := if x.1 = 112 then E8_112 x.2 else (if x.1 = 160 then E8_160 x.2 else (if x.1 = 176 then E8_176 x.2 else (if x.1 = 192 then E8_192 x.2 else (if x.1 = 208 then E8_208 x.2 else (E8_n x)))))) (fun e => by have h := p8_96 x.2; rw [show ((96 : Int), x.2) = x from Prod.ext e.symm rfl] at h; exact h) (fun _ => (PureOK.iteE (T := (.tup KT4 KT5)) (c := x.1 = 112) (a := E8_112 x.2) (b := if x.1 = 160 then E8_160 x.2 else (if x.1 = 176 then E8_176 x.2 else (if x.1 = 192 then E8_192 x.2 else (if x.1 = 208 then E8_208 x.2 else (E8_n x))))) (fun e => by have h := p8_112 x.2; rw [show ((112 : Int), x.2) = x from Prod.ext e.symm rfl] at h; exact h) (fun _ => (PureOK.iteE (T := (.tup KT4 KT5)) (c := x.1 = 160) (a := E8_160 x.2) (b := if x.1 = 176 then E8_176 x.2 else (if x.1 = 192 then E8_192 x.2 else (if x.1 = 208 then E8_208 x.2 else (E8_n x)))) (fun e => by have h := p8_160 x.2; rw [show ((160 : Int), x.2) = x from Prod.ext e.symm rfl] at h; exact h) (fun _ => (PureOK.iteE (T := (.tup KT4 KT5)) (c := x.1 = 176) (a := E8_176 x.2) (b := if x.1 = 192 then E8_192 x.2 else (if x.1 = 208 then E8_208 x.2 else (E8_n x))) (fun e => by have h := p8_176 x.2; rw [show ((176 : Int), x.2) = x from Prod.ext e.symm rfl] at h; exact h) (fun _ => (PureOK.iteE (T := (.tup KT4 KT5)) (c := x.1 = 192) (a := E8_192 x.2) (b := if x.1 = 208 then E8_208 x.2 else (E8_n x)) (fun e => by have h := p8_192 x.2; rw [show ((192 : Int), x.2) = x from Prod.ext e.symm rfl] at h; exact h) (fun _ => (PureOK.iteE (T := (.tup KT4 KT5)) (c := x.1 = 208) (a := E8_208 x.2) (b := E8_n x) (fun e => by have h := p8_208 x.2; rw [show ((208 : Int), x.2) = x from Prod.ext e.symm rfl] at h; exact h) (fun _ => (p8_n x)))))))))))))))))))))))))
noncomputable def kn13 : Kn := kOf []
theorem knOK13 : KOK Try.prog kn13 := KOK.nil
noncomputable def V13_0 : (Int × (List Int) × (List Int) × Int × Unit) → Option ((Int × (List Int) × (List Int) × Int × Unit) ⊕ ((Unit) ⊕ (Int × Unit))) := fun x => R13_0  (fun _ => (Sum.inl (()))) (fun _ => false) x.1 x.2.1 x.2.2.1 x.2.2.2.1
noncomputable def W13_0 : (Int × (List Int) × (List Int) × Int × Unit) → ((Unit) ⊕ (Int × Unit)) := whV (hd := hd13_0) (ys := ys13_0) V13_0
noncomputable def Q13_0 : (Int × (List Int) × (List Int) × Int × Unit) → Bool := whK (hd := hd13_0) (ys := ys13_0) V13_0
noncomputable def C13 : Cx := CxL Try.Θ kn13 (lOf [(0, orc 34 26 0 hd13_0 ys13_0 W13_0 Q13_0)])
theorem CxOK13 : CxOK Try.prog C13 := ⟨Try.tabOK, knOK13, by kernel_rfl⟩
theorem l13_0 : Lone Try.prog C13 0 (.loop (loopB 0 (bodyF Try.f13))) (orc 34 26 0 hd13_0 ys13_0 W13_0 Q13_0) :=
  Lone.of CxOK13 (Lall.LOK rfl (by kernel_rfl) (Lall.skip (by kernel_rfl) trivial)) (by kernel_rfl) (fun x => (r13_0  W13_0 Q13_0 x.1 x.2.1 x.2.2.1 x.2.2.2.1).trans (by rfl))
theorem LOK13 : LOK Try.prog C13 0 (bodyF Try.f13) := (Lall.LOK rfl (by kernel_rfl) (Lall.cons (by kernel_rfl) l13_0 trivial))
noncomputable def E13 : (Int × Unit) → Option Int := fun x => S13  W13_0 Q13_0 x.1
noncomputable def F13 : (Int × Unit) → Int := fun x => (E13 x).getD (dflt (.int .i64))
noncomputable def G13 : (Int × Unit) → Bool := fun x => (E13 x).isSome
theorem p13 : ∀ x, G13 x = true → PureOK Try.prog 13 (mkA [(.int .i64)] x) ⟨(.int .i64), F13 x⟩ :=
  PureOK.ofS (ts := [(.int .i64)]) (T := (.int .i64)) (S := E13) CxOK13 Try.func13 (LOK.fn LOK13) (fun x => t13  W13_0 Q13_0 x.1)
noncomputable def kn27 : Kn := kOf [(18, sm [KT4] KT5 F18 G18)]
theorem knOK27 : KOK Try.prog kn27 := (KOK.cons Try.call18 (SmOK.sm p18) KOK.nil)
noncomputable def C27 : Cx := CxL Try.Θ kn27 (lOf [])
theorem CxOK27 : CxOK Try.prog C27 := ⟨Try.tabOK, knOK27, by kernel_rfl⟩
theorem LOK27 : LOK Try.prog C27 0 (bodyF Try.f27) := (Lall.LOK rfl (by kernel_rfl) trivial)
noncomputable def E27 : (KD0 × KD0 × Unit) → Option KD7 := fun x => S27 F18 G18  x.1 x.2.1
noncomputable def F27 : (KD0 × KD0 × Unit) → KD7 := fun x => (E27 x).getD (dflt (.tup KT4 KT5))
noncomputable def G27 : (KD0 × KD0 × Unit) → Bool := fun x => (E27 x).isSome
theorem p27 : ∀ x, G27 x = true → PureOK Try.prog 27 (mkA [KT4, KT4] x) ⟨(.tup KT4 KT5), F27 x⟩ :=
  PureOK.ofS (ts := [KT4, KT4]) (T := (.tup KT4 KT5)) (S := E27) CxOK27 Try.func27 (LOK.fn LOK27) (fun x => t27 F18 G18  x.1 x.2.1)
noncomputable def kn41 : Kn := kOf []
theorem knOK41 : KOK Try.prog kn41 := KOK.nil
noncomputable def C41 : Cx := CxL Try.Θ kn41 (lOf [])
theorem CxOK41 : CxOK Try.prog C41 := ⟨Try.tabOK, knOK41, by kernel_rfl⟩
theorem LOK41 : LOK Try.prog C41 0 (bodyF Try.f41) := (Lall.LOK rfl (by kernel_rfl) trivial)
noncomputable def E41 : (KD0 × Unit) → Option (Int × (Bool × Unit)) := fun x => S41   x.1
noncomputable def F41 : (KD0 × Unit) → (Int × (Bool × Unit)) := fun x => (E41 x).getD (dflt KT6)
noncomputable def G41 : (KD0 × Unit) → Bool := fun x => (E41 x).isSome
theorem p41 : ∀ x, G41 x = true → PureOK Try.prog 41 (mkA [KT4] x) ⟨KT6, F41 x⟩ :=
  PureOK.ofS (ts := [KT4]) (T := KT6) (S := E41) CxOK41 Try.func41 (LOK.fn LOK41) (fun x => t41   x.1)
noncomputable def kn42 : Kn := kOf []
theorem knOK42 : KOK Try.prog kn42 := KOK.nil
noncomputable def C42 : Cx := CxL Try.Θ kn42 (lOf [])
theorem CxOK42 : CxOK Try.prog C42 := ⟨Try.tabOK, knOK42, by kernel_rfl⟩
theorem LOK42 : LOK Try.prog C42 0 (bodyF Try.f42) := (Lall.LOK rfl (by kernel_rfl) trivial)
noncomputable def E42 : (KD0 × Int × Unit) → Option (KD0 × (Bool × Unit)) := fun x => S42   x.1 x.2.1
noncomputable def F42 : (KD0 × Int × Unit) → (KD0 × (Bool × Unit)) := fun x => (E42 x).getD (dflt KT5)
noncomputable def G42 : (KD0 × Int × Unit) → Bool := fun x => (E42 x).isSome
theorem p42 : ∀ x, G42 x = true → PureOK Try.prog 42 (mkA [KT4, (.int .u64)] x) ⟨KT5, F42 x⟩ :=
  PureOK.ofS (ts := [KT4, (.int .u64)]) (T := KT5) (S := E42) CxOK42 Try.func42 (LOK.fn LOK42) (fun x => t42   x.1 x.2.1)
noncomputable def kn28 : Kn := kOf [(27, sm [KT4, KT4] (.tup KT4 KT5) F27 G27), (41, sm [KT4] KT6 F41 G41), (42, sm [KT4, (.int .u64)] KT5 F42 G42)]
theorem knOK28 : KOK Try.prog kn28 := (KOK.cons Try.call27 (SmOK.sm p27) (KOK.cons Try.call41 (SmOK.sm p41) (KOK.cons Try.call42 (SmOK.sm p42) KOK.nil)))
noncomputable def C28 : Cx := CxL Try.Θ kn28 (lOf [])
theorem CxOK28 : CxOK Try.prog C28 := ⟨Try.tabOK, knOK28, by kernel_rfl⟩
theorem LOK28 : LOK Try.prog C28 0 (bodyF Try.f28) := (Lall.LOK rfl (by kernel_rfl) trivial)
noncomputable def E28 : (KD0 × KD0 × Unit) → Option KD7 := fun x => S28 F27 G27 F41 G41 F42 G42  x.1 x.2.1
noncomputable def F28 : (KD0 × KD0 × Unit) → KD7 := fun x => (E28 x).getD (dflt (.tup KT4 KT5))
noncomputable def G28 : (KD0 × KD0 × Unit) → Bool := fun x => (E28 x).isSome
theorem p28 : ∀ x, G28 x = true → PureOK Try.prog 28 (mkA [KT4, KT4] x) ⟨(.tup KT4 KT5), F28 x⟩ :=
  PureOK.ofS (ts := [KT4, KT4]) (T := (.tup KT4 KT5)) (S := E28) CxOK28 Try.func28 (LOK.fn LOK28) (fun x => t28 F27 G27 F41 G41 F42 G42  x.1 x.2.1)
noncomputable def kn29 : Kn := kOf [(27, sm [KT4, KT4] (.tup KT4 KT5) F27 G27)]
theorem knOK29 : KOK Try.prog kn29 := (KOK.cons Try.call27 (SmOK.sm p27) KOK.nil)
noncomputable def C29 : Cx := CxL Try.Θ kn29 (lOf [])
theorem CxOK29 : CxOK Try.prog C29 := ⟨Try.tabOK, knOK29, by kernel_rfl⟩
theorem LOK29 : LOK Try.prog C29 0 (bodyF Try.f29) := (Lall.LOK rfl (by kernel_rfl) trivial)
noncomputable def E29 : (KD0 × KD0 × Bool × Unit) → Option KD7 := fun x => S29 F27 G27  x.1 x.2.1 x.2.2.1
noncomputable def F29 : (KD0 × KD0 × Bool × Unit) → KD7 := fun x => (E29 x).getD (dflt (.tup KT4 KT5))
noncomputable def G29 : (KD0 × KD0 × Bool × Unit) → Bool := fun x => (E29 x).isSome
theorem p29 : ∀ x, G29 x = true → PureOK Try.prog 29 (mkA [KT4, KT4, .bool] x) ⟨(.tup KT4 KT5), F29 x⟩ :=
  PureOK.ofS (ts := [KT4, KT4, .bool]) (T := (.tup KT4 KT5)) (S := E29) CxOK29 Try.func29 (LOK.fn LOK29) (fun x => t29 F27 G27  x.1 x.2.1 x.2.2.1)
noncomputable def kn30 : Kn := kOf []
theorem knOK30 : KOK Try.prog kn30 := KOK.nil
noncomputable def C30 : Cx := CxL Try.Θ kn30 (lOf [])
theorem CxOK30 : CxOK Try.prog C30 := ⟨Try.tabOK, knOK30, by kernel_rfl⟩
theorem LOK30 : LOK Try.prog C30 0 (bodyF Try.f30) := (Lall.LOK rfl (by kernel_rfl) trivial)
noncomputable def E30 : (KD0 × KD0 × Bool × Unit) → Option KD7 := fun x => S30   x.1 x.2.1 x.2.2.1
noncomputable def F30 : (KD0 × KD0 × Bool × Unit) → KD7 := fun x => (E30 x).getD (dflt (.tup KT4 KT5))
noncomputable def G30 : (KD0 × KD0 × Bool × Unit) → Bool := fun x => (E30 x).isSome
theorem p30 : ∀ x, G30 x = true → PureOK Try.prog 30 (mkA [KT4, KT4, .bool] x) ⟨(.tup KT4 KT5), F30 x⟩ :=
  PureOK.ofS (ts := [KT4, KT4, .bool]) (T := (.tup KT4 KT5)) (S := E30) CxOK30 Try.func30 (LOK.fn LOK30) (fun x => t30   x.1 x.2.1 x.2.2.1)
noncomputable def kn31 : Kn := kOf [(27, sm [KT4, KT4] (.tup KT4 KT5) F27 G27), (41, sm [KT4] KT6 F41 G41)]
theorem knOK31 : KOK Try.prog kn31 := (KOK.cons Try.call27 (SmOK.sm p27) (KOK.cons Try.call41 (SmOK.sm p41) KOK.nil))
noncomputable def C31 : Cx := CxL Try.Θ kn31 (lOf [])
theorem CxOK31 : CxOK Try.prog C31 := ⟨Try.tabOK, knOK31, by kernel_rfl⟩
theorem LOK31 : LOK Try.prog C31 0 (bodyF Try.f31) := (Lall.LOK rfl (by kernel_rfl) trivial)
noncomputable def E31 : (KD0 × KD0 × Bool × Unit) → Option KD7 := fun x => S31 F27 G27 F41 G41  x.1 x.2.1 x.2.2.1
noncomputable def F31 : (KD0 × KD0 × Bool × Unit) → KD7 := fun x => (E31 x).getD (dflt (.tup KT4 KT5))
noncomputable def G31 : (KD0 × KD0 × Bool × Unit) → Bool := fun x => (E31 x).isSome
theorem p31 : ∀ x, G31 x = true → PureOK Try.prog 31 (mkA [KT4, KT4, .bool] x) ⟨(.tup KT4 KT5), F31 x⟩ :=
  PureOK.ofS (ts := [KT4, KT4, .bool]) (T := (.tup KT4 KT5)) (S := E31) CxOK31 Try.func31 (LOK.fn LOK31) (fun x => t31 F27 G27 F41 G41  x.1 x.2.1 x.2.2.1)
noncomputable def kn9_16 : Kn := kOf [(13, sm [(.int .i64)] (.int .i64) (fun _ => 80) (fun x => G13 x && decide (F13 x = 80))), (26, sm [(.pair (.int .u64) KT1), (.pair (.int .u64) KT1)] KT3 F26 G26), (27, sm [KT4, KT4] (.tup KT4 KT5) F27 G27)]
theorem knOK9_16 : KOK Try.prog kn9_16 := (KOK.cons Try.call13 (SmOK.sm (constP (ts := [(.int .i64)]) (T := (.int .i64)) (F := F13) (G := G13) (c := 80) p13)) (KOK.cons Try.call26 (SmOK.sm p26) (KOK.cons Try.call27 (SmOK.sm p27) KOK.nil)))
noncomputable def C9_16 : Cx := CxL Try.Θ kn9_16 (lOf [])
theorem CxOK9_16 : CxOK Try.prog C9_16 := ⟨Try.tabOK, knOK9_16, by kernel_rfl⟩
theorem LOK9_16 : LOK Try.prog C9_16 0 (bodyF Try.f9) := (Lall.LOK rfl (by kernel_rfl) trivial)
noncomputable def E9_16 : (Bool × KD0 × KD0 × Unit) → Option KD7 := fun x => S9_16 (fun x => G13 x && decide (F13 x = 80)) F26 G26 F27 G27  x.1 x.2.1 x.2.2.1
theorem p9_16 : ∀ x : (Bool × KD0 × KD0 × Unit), (E9_16 x).isSome = true → PureOK Try.prog 9 (mkA [(.int .i64), .bool, KT4, KT4] (16, x.1, x.2.1, x.2.2.1, ())) ⟨(.tup KT4 KT5), (E9_16 x).getD (dflt (.tup KT4 KT5))⟩ :=
  fun x => PureOK.of1 CxOK9_16 Try.func9 (LOK.fn LOK9_16) (t9_16 (fun x => G13 x && decide (F13 x = 80)) F26 G26 F27 G27  x.1 x.2.1 x.2.2.1)
noncomputable def kn9_32 : Kn := kOf [(13, sm [(.int .i64)] (.int .i64) (fun _ => 176) (fun x => G13 x && decide (F13 x = 176))), (29, sm [KT4, KT4, .bool] (.tup KT4 KT5) F29 G29)]
theorem knOK9_32 : KOK Try.prog kn9_32 := (KOK.cons Try.call13 (SmOK.sm (constP (ts := [(.int .i64)]) (T := (.int .i64)) (F := F13) (G := G13) (c := 176) p13)) (KOK.cons Try.call29 (SmOK.sm p29) KOK.nil))
noncomputable def C9_32 : Cx := CxL Try.Θ kn9_32 (lOf [])
theorem CxOK9_32 : CxOK Try.prog C9_32 := ⟨Try.tabOK, knOK9_32, by kernel_rfl⟩
theorem LOK9_32 : LOK Try.prog C9_32 0 (bodyF Try.f9) := (Lall.LOK rfl (by kernel_rfl) trivial)
noncomputable def E9_32 : (Bool × KD0 × KD0 × Unit) → Option KD7 := fun x => S9_32 (fun x => G13 x && decide (F13 x = 176)) F29 G29  x.1 x.2.1 x.2.2.1
theorem p9_32 : ∀ x : (Bool × KD0 × KD0 × Unit), (E9_32 x).isSome = true → PureOK Try.prog 9 (mkA [(.int .i64), .bool, KT4, KT4] (32, x.1, x.2.1, x.2.2.1, ())) ⟨(.tup KT4 KT5), (E9_32 x).getD (dflt (.tup KT4 KT5))⟩ :=
  fun x => PureOK.of1 CxOK9_32 Try.func9 (LOK.fn LOK9_32) (t9_32 (fun x => G13 x && decide (F13 x = 176)) F29 G29  x.1 x.2.1 x.2.2.1)
noncomputable def kn9_48 : Kn := kOf [(13, sm [(.int .i64)] (.int .i64) (fun _ => 160) (fun x => G13 x && decide (F13 x = 160))), (29, sm [KT4, KT4, .bool] (.tup KT4 KT5) F29 G29)]
theorem knOK9_48 : KOK Try.prog kn9_48 := (KOK.cons Try.call13 (SmOK.sm (constP (ts := [(.int .i64)]) (T := (.int .i64)) (F := F13) (G := G13) (c := 160) p13)) (KOK.cons Try.call29 (SmOK.sm p29) KOK.nil))
noncomputable def C9_48 : Cx := CxL Try.Θ kn9_48 (lOf [])
theorem CxOK9_48 : CxOK Try.prog C9_48 := ⟨Try.tabOK, knOK9_48, by kernel_rfl⟩
theorem LOK9_48 : LOK Try.prog C9_48 0 (bodyF Try.f9) := (Lall.LOK rfl (by kernel_rfl) trivial)
noncomputable def E9_48 : (Bool × KD0 × KD0 × Unit) → Option KD7 := fun x => S9_48 (fun x => G13 x && decide (F13 x = 160)) F29 G29  x.1 x.2.1 x.2.2.1
theorem p9_48 : ∀ x : (Bool × KD0 × KD0 × Unit), (E9_48 x).isSome = true → PureOK Try.prog 9 (mkA [(.int .i64), .bool, KT4, KT4] (48, x.1, x.2.1, x.2.2.1, ())) ⟨(.tup KT4 KT5), (E9_48 x).getD (dflt (.tup KT4 KT5))⟩ :=
  fun x => PureOK.of1 CxOK9_48 Try.func9 (LOK.fn LOK9_48) (t9_48 (fun x => G13 x && decide (F13 x = 160)) F29 G29  x.1 x.2.1 x.2.2.1)
noncomputable def kn9_64 : Kn := kOf [(13, sm [(.int .i64)] (.int .i64) (fun _ => 68) (fun x => G13 x && decide (F13 x = 68))), (31, sm [KT4, KT4, .bool] (.tup KT4 KT5) F31 G31)]
theorem knOK9_64 : KOK Try.prog kn9_64 := (KOK.cons Try.call13 (SmOK.sm (constP (ts := [(.int .i64)]) (T := (.int .i64)) (F := F13) (G := G13) (c := 68) p13)) (KOK.cons Try.call31 (SmOK.sm p31) KOK.nil))
noncomputable def C9_64 : Cx := CxL Try.Θ kn9_64 (lOf [])
theorem CxOK9_64 : CxOK Try.prog C9_64 := ⟨Try.tabOK, knOK9_64, by kernel_rfl⟩
theorem LOK9_64 : LOK Try.prog C9_64 0 (bodyF Try.f9) := (Lall.LOK rfl (by kernel_rfl) trivial)
noncomputable def E9_64 : (Bool × KD0 × KD0 × Unit) → Option KD7 := fun x => S9_64 (fun x => G13 x && decide (F13 x = 68)) F31 G31  x.1 x.2.1 x.2.2.1
theorem p9_64 : ∀ x : (Bool × KD0 × KD0 × Unit), (E9_64 x).isSome = true → PureOK Try.prog 9 (mkA [(.int .i64), .bool, KT4, KT4] (64, x.1, x.2.1, x.2.2.1, ())) ⟨(.tup KT4 KT5), (E9_64 x).getD (dflt (.tup KT4 KT5))⟩ :=
  fun x => PureOK.of1 CxOK9_64 Try.func9 (LOK.fn LOK9_64) (t9_64 (fun x => G13 x && decide (F13 x = 68)) F31 G31  x.1 x.2.1 x.2.2.1)
noncomputable def kn9_68 : Kn := kOf [(13, sm [(.int .i64)] (.int .i64) (fun _ => 64) (fun x => G13 x && decide (F13 x = 64))), (31, sm [KT4, KT4, .bool] (.tup KT4 KT5) F31 G31)]
theorem knOK9_68 : KOK Try.prog kn9_68 := (KOK.cons Try.call13 (SmOK.sm (constP (ts := [(.int .i64)]) (T := (.int .i64)) (F := F13) (G := G13) (c := 64) p13)) (KOK.cons Try.call31 (SmOK.sm p31) KOK.nil))
noncomputable def C9_68 : Cx := CxL Try.Θ kn9_68 (lOf [])
theorem CxOK9_68 : CxOK Try.prog C9_68 := ⟨Try.tabOK, knOK9_68, by kernel_rfl⟩
theorem LOK9_68 : LOK Try.prog C9_68 0 (bodyF Try.f9) := (Lall.LOK rfl (by kernel_rfl) trivial)
noncomputable def E9_68 : (Bool × KD0 × KD0 × Unit) → Option KD7 := fun x => S9_68 (fun x => G13 x && decide (F13 x = 64)) F31 G31  x.1 x.2.1 x.2.2.1
theorem p9_68 : ∀ x : (Bool × KD0 × KD0 × Unit), (E9_68 x).isSome = true → PureOK Try.prog 9 (mkA [(.int .i64), .bool, KT4, KT4] (68, x.1, x.2.1, x.2.2.1, ())) ⟨(.tup KT4 KT5), (E9_68 x).getD (dflt (.tup KT4 KT5))⟩ :=
  fun x => PureOK.of1 CxOK9_68 Try.func9 (LOK.fn LOK9_68) (t9_68 (fun x => G13 x && decide (F13 x = 64)) F31 G31  x.1 x.2.1 x.2.2.1)
noncomputable def kn9_80 : Kn := kOf [(13, sm [(.int .i64)] (.int .i64) (fun _ => 16) (fun x => G13 x && decide (F13 x = 16))), (28, sm [KT4, KT4] (.tup KT4 KT5) F28 G28)]
theorem knOK9_80 : KOK Try.prog kn9_80 := (KOK.cons Try.call13 (SmOK.sm (constP (ts := [(.int .i64)]) (T := (.int .i64)) (F := F13) (G := G13) (c := 16) p13)) (KOK.cons Try.call28 (SmOK.sm p28) KOK.nil))
noncomputable def C9_80 : Cx := CxL Try.Θ kn9_80 (lOf [])
theorem CxOK9_80 : CxOK Try.prog C9_80 := ⟨Try.tabOK, knOK9_80, by kernel_rfl⟩
theorem LOK9_80 : LOK Try.prog C9_80 0 (bodyF Try.f9) := (Lall.LOK rfl (by kernel_rfl) trivial)
noncomputable def E9_80 : (Bool × KD0 × KD0 × Unit) → Option KD7 := fun x => S9_80 (fun x => G13 x && decide (F13 x = 16)) F28 G28  x.1 x.2.1 x.2.2.1
theorem p9_80 : ∀ x : (Bool × KD0 × KD0 × Unit), (E9_80 x).isSome = true → PureOK Try.prog 9 (mkA [(.int .i64), .bool, KT4, KT4] (80, x.1, x.2.1, x.2.2.1, ())) ⟨(.tup KT4 KT5), (E9_80 x).getD (dflt (.tup KT4 KT5))⟩ :=
  fun x => PureOK.of1 CxOK9_80 Try.func9 (LOK.fn LOK9_80) (t9_80 (fun x => G13 x && decide (F13 x = 16)) F28 G28  x.1 x.2.1 x.2.2.1)
noncomputable def kn9_96 : Kn := kOf [(13, sm [(.int .i64)] (.int .i64) (fun _ => 208) (fun x => G13 x && decide (F13 x = 208))), (29, sm [KT4, KT4, .bool] (.tup KT4 KT5) F29 G29)]
theorem knOK9_96 : KOK Try.prog kn9_96 := (KOK.cons Try.call13 (SmOK.sm (constP (ts := [(.int .i64)]) (T := (.int .i64)) (F := F13) (G := G13) (c := 208) p13)) (KOK.cons Try.call29 (SmOK.sm p29) KOK.nil))
noncomputable def C9_96 : Cx := CxL Try.Θ kn9_96 (lOf [])
theorem CxOK9_96 : CxOK Try.prog C9_96 := ⟨Try.tabOK, knOK9_96, by kernel_rfl⟩
theorem LOK9_96 : LOK Try.prog C9_96 0 (bodyF Try.f9) := (Lall.LOK rfl (by kernel_rfl) trivial)
noncomputable def E9_96 : (Bool × KD0 × KD0 × Unit) → Option KD7 := fun x => S9_96 (fun x => G13 x && decide (F13 x = 208)) F29 G29  x.1 x.2.1 x.2.2.1
theorem p9_96 : ∀ x : (Bool × KD0 × KD0 × Unit), (E9_96 x).isSome = true → PureOK Try.prog 9 (mkA [(.int .i64), .bool, KT4, KT4] (96, x.1, x.2.1, x.2.2.1, ())) ⟨(.tup KT4 KT5), (E9_96 x).getD (dflt (.tup KT4 KT5))⟩ :=
  fun x => PureOK.of1 CxOK9_96 Try.func9 (LOK.fn LOK9_96) (t9_96 (fun x => G13 x && decide (F13 x = 208)) F29 G29  x.1 x.2.1 x.2.2.1)
noncomputable def kn9_112 : Kn := kOf [(13, sm [(.int .i64)] (.int .i64) (fun _ => 192) (fun x => G13 x && decide (F13 x = 192))), (29, sm [KT4, KT4, .bool] (.tup KT4 KT5) F29 G29)]
theorem knOK9_112 : KOK Try.prog kn9_112 := (KOK.cons Try.call13 (SmOK.sm (constP (ts := [(.int .i64)]) (T := (.int .i64)) (F := F13) (G := G13) (c := 192) p13)) (KOK.cons Try.call29 (SmOK.sm p29) KOK.nil))
noncomputable def C9_112 : Cx := CxL Try.Θ kn9_112 (lOf [])
theorem CxOK9_112 : CxOK Try.prog C9_112 := ⟨Try.tabOK, knOK9_112, by kernel_rfl⟩
theorem LOK9_112 : LOK Try.prog C9_112 0 (bodyF Try.f9) := (Lall.LOK rfl (by kernel_rfl) trivial)
noncomputable def E9_112 : (Bool × KD0 × KD0 × Unit) → Option KD7 := fun x => S9_112 (fun x => G13 x && decide (F13 x = 192)) F29 G29  x.1 x.2.1 x.2.2.1
theorem p9_112 : ∀ x : (Bool × KD0 × KD0 × Unit), (E9_112 x).isSome = true → PureOK Try.prog 9 (mkA [(.int .i64), .bool, KT4, KT4] (112, x.1, x.2.1, x.2.2.1, ())) ⟨(.tup KT4 KT5), (E9_112 x).getD (dflt (.tup KT4 KT5))⟩ :=
  fun x => PureOK.of1 CxOK9_112 Try.func9 (LOK.fn LOK9_112) (t9_112 (fun x => G13 x && decide (F13 x = 192)) F29 G29  x.1 x.2.1 x.2.2.1)
noncomputable def kn9_160 : Kn := kOf [(13, sm [(.int .i64)] (.int .i64) (fun _ => 48) (fun x => G13 x && decide (F13 x = 48))), (29, sm [KT4, KT4, .bool] (.tup KT4 KT5) F29 G29), (30, sm [KT4, KT4, .bool] (.tup KT4 KT5) F30 G30)]
theorem knOK9_160 : KOK Try.prog kn9_160 := (KOK.cons Try.call13 (SmOK.sm (constP (ts := [(.int .i64)]) (T := (.int .i64)) (F := F13) (G := G13) (c := 48) p13)) (KOK.cons Try.call29 (SmOK.sm p29) (KOK.cons Try.call30 (SmOK.sm p30) KOK.nil)))
noncomputable def C9_160 : Cx := CxL Try.Θ kn9_160 (lOf [])
theorem CxOK9_160 : CxOK Try.prog C9_160 := ⟨Try.tabOK, knOK9_160, by kernel_rfl⟩
theorem LOK9_160 : LOK Try.prog C9_160 0 (bodyF Try.f9) := (Lall.LOK rfl (by kernel_rfl) trivial)
noncomputable def E9_160 : (Bool × KD0 × KD0 × Unit) → Option KD7 := fun x => S9_160 (fun x => G13 x && decide (F13 x = 48)) F29 G29 F30 G30  x.1 x.2.1 x.2.2.1
theorem p9_160 : ∀ x : (Bool × KD0 × KD0 × Unit), (E9_160 x).isSome = true → PureOK Try.prog 9 (mkA [(.int .i64), .bool, KT4, KT4] (160, x.1, x.2.1, x.2.2.1, ())) ⟨(.tup KT4 KT5), (E9_160 x).getD (dflt (.tup KT4 KT5))⟩ :=
  fun x => PureOK.of1 CxOK9_160 Try.func9 (LOK.fn LOK9_160) (t9_160 (fun x => G13 x && decide (F13 x = 48)) F29 G29 F30 G30  x.1 x.2.1 x.2.2.1)
noncomputable def kn9_176 : Kn := kOf [(13, sm [(.int .i64)] (.int .i64) (fun _ => 32) (fun x => G13 x && decide (F13 x = 32))), (29, sm [KT4, KT4, .bool] (.tup KT4 KT5) F29 G29), (30, sm [KT4, KT4, .bool] (.tup KT4 KT5) F30 G30)]
theorem knOK9_176 : KOK Try.prog kn9_176 := (KOK.cons Try.call13 (SmOK.sm (constP (ts := [(.int .i64)]) (T := (.int .i64)) (F := F13) (G := G13) (c := 32) p13)) (KOK.cons Try.call29 (SmOK.sm p29) (KOK.cons Try.call30 (SmOK.sm p30) KOK.nil)))
noncomputable def C9_176 : Cx := CxL Try.Θ kn9_176 (lOf [])
theorem CxOK9_176 : CxOK Try.prog C9_176 := ⟨Try.tabOK, knOK9_176, by kernel_rfl⟩
theorem LOK9_176 : LOK Try.prog C9_176 0 (bodyF Try.f9) := (Lall.LOK rfl (by kernel_rfl) trivial)
noncomputable def E9_176 : (Bool × KD0 × KD0 × Unit) → Option KD7 := fun x => S9_176 (fun x => G13 x && decide (F13 x = 32)) F29 G29 F30 G30  x.1 x.2.1 x.2.2.1
theorem p9_176 : ∀ x : (Bool × KD0 × KD0 × Unit), (E9_176 x).isSome = true → PureOK Try.prog 9 (mkA [(.int .i64), .bool, KT4, KT4] (176, x.1, x.2.1, x.2.2.1, ())) ⟨(.tup KT4 KT5), (E9_176 x).getD (dflt (.tup KT4 KT5))⟩ :=
  fun x => PureOK.of1 CxOK9_176 Try.func9 (LOK.fn LOK9_176) (t9_176 (fun x => G13 x && decide (F13 x = 32)) F29 G29 F30 G30  x.1 x.2.1 x.2.2.1)
noncomputable def kn9_192 : Kn := kOf [(13, sm [(.int .i64)] (.int .i64) (fun _ => 112) (fun x => G13 x && decide (F13 x = 112))), (29, sm [KT4, KT4, .bool] (.tup KT4 KT5) F29 G29), (30, sm [KT4, KT4, .bool] (.tup KT4 KT5) F30 G30)]
theorem knOK9_192 : KOK Try.prog kn9_192 := (KOK.cons Try.call13 (SmOK.sm (constP (ts := [(.int .i64)]) (T := (.int .i64)) (F := F13) (G := G13) (c := 112) p13)) (KOK.cons Try.call29 (SmOK.sm p29) (KOK.cons Try.call30 (SmOK.sm p30) KOK.nil)))
noncomputable def C9_192 : Cx := CxL Try.Θ kn9_192 (lOf [])
theorem CxOK9_192 : CxOK Try.prog C9_192 := ⟨Try.tabOK, knOK9_192, by kernel_rfl⟩
theorem LOK9_192 : LOK Try.prog C9_192 0 (bodyF Try.f9) := (Lall.LOK rfl (by kernel_rfl) trivial)
noncomputable def E9_192 : (Bool × KD0 × KD0 × Unit) → Option KD7 := fun x => S9_192 (fun x => G13 x && decide (F13 x = 112)) F29 G29 F30 G30  x.1 x.2.1 x.2.2.1
theorem p9_192 : ∀ x : (Bool × KD0 × KD0 × Unit), (E9_192 x).isSome = true → PureOK Try.prog 9 (mkA [(.int .i64), .bool, KT4, KT4] (192, x.1, x.2.1, x.2.2.1, ())) ⟨(.tup KT4 KT5), (E9_192 x).getD (dflt (.tup KT4 KT5))⟩ :=
  fun x => PureOK.of1 CxOK9_192 Try.func9 (LOK.fn LOK9_192) (t9_192 (fun x => G13 x && decide (F13 x = 112)) F29 G29 F30 G30  x.1 x.2.1 x.2.2.1)
noncomputable def kn9_208 : Kn := kOf [(13, sm [(.int .i64)] (.int .i64) (fun _ => 96) (fun x => G13 x && decide (F13 x = 96))), (29, sm [KT4, KT4, .bool] (.tup KT4 KT5) F29 G29), (30, sm [KT4, KT4, .bool] (.tup KT4 KT5) F30 G30)]
theorem knOK9_208 : KOK Try.prog kn9_208 := (KOK.cons Try.call13 (SmOK.sm (constP (ts := [(.int .i64)]) (T := (.int .i64)) (F := F13) (G := G13) (c := 96) p13)) (KOK.cons Try.call29 (SmOK.sm p29) (KOK.cons Try.call30 (SmOK.sm p30) KOK.nil)))
noncomputable def C9_208 : Cx := CxL Try.Θ kn9_208 (lOf [])
theorem CxOK9_208 : CxOK Try.prog C9_208 := ⟨Try.tabOK, knOK9_208, by kernel_rfl⟩
theorem LOK9_208 : LOK Try.prog C9_208 0 (bodyF Try.f9) := (Lall.LOK rfl (by kernel_rfl) trivial)
noncomputable def E9_208 : (Bool × KD0 × KD0 × Unit) → Option KD7 := fun x => S9_208 (fun x => G13 x && decide (F13 x = 96)) F29 G29 F30 G30  x.1 x.2.1 x.2.2.1
theorem p9_208 : ∀ x : (Bool × KD0 × KD0 × Unit), (E9_208 x).isSome = true → PureOK Try.prog 9 (mkA [(.int .i64), .bool, KT4, KT4] (208, x.1, x.2.1, x.2.2.1, ())) ⟨(.tup KT4 KT5), (E9_208 x).getD (dflt (.tup KT4 KT5))⟩ :=
  fun x => PureOK.of1 CxOK9_208 Try.func9 (LOK.fn LOK9_208) (t9_208 (fun x => G13 x && decide (F13 x = 96)) F29 G29 F30 G30  x.1 x.2.1 x.2.2.1)
noncomputable def kn9_n : Kn := kOf [(13, sm [(.int .i64)] (.int .i64) (fun _ => (-1)) (fun x => G13 x && decide (F13 x = (-1))))]
theorem knOK9_n : KOK Try.prog kn9_n := (KOK.cons Try.call13 (SmOK.sm (constP (ts := [(.int .i64)]) (T := (.int .i64)) (F := F13) (G := G13) (c := (-1)) p13)) KOK.nil)
noncomputable def C9_n : Cx := CxL Try.Θ kn9_n (lOf [])
theorem CxOK9_n : CxOK Try.prog C9_n := ⟨Try.tabOK, knOK9_n, by kernel_rfl⟩
theorem LOK9_n : LOK Try.prog C9_n 0 (bodyF Try.f9) := (Lall.LOK rfl (by kernel_rfl) trivial)
noncomputable def E9_n : (Int × Bool × KD0 × KD0 × Unit) → Option KD7 := fun x => S9_n (fun x => G13 x && decide (F13 x = (-1)))  x.1 x.2.1 x.2.2.1 x.2.2.2.1
noncomputable def F9_n : (Int × Bool × KD0 × KD0 × Unit) → KD7 := fun x => (E9_n x).getD (dflt (.tup KT4 KT5))
noncomputable def G9_n : (Int × Bool × KD0 × KD0 × Unit) → Bool := fun x => (E9_n x).isSome
theorem p9_n : ∀ x, G9_n x = true → PureOK Try.prog 9 (mkA [(.int .i64), .bool, KT4, KT4] x) ⟨(.tup KT4 KT5), F9_n x⟩ :=
  PureOK.ofS (ts := [(.int .i64), .bool, KT4, KT4]) (T := (.tup KT4 KT5)) (S := E9_n) CxOK9_n Try.func9 (LOK.fn LOK9_n) (fun x => t9_n (fun x => G13 x && decide (F13 x = (-1)))  x.1 x.2.1 x.2.2.1 x.2.2.2.1)
noncomputable def E9 : (Int × Bool × KD0 × KD0 × Unit) → Option KD7 := fun x => if x.1 = 16 then E9_16 x.2 else (if x.1 = 32 then E9_32 x.2 else (if x.1 = 48 then E9_48 x.2 else (if x.1 = 64 then E9_64 x.2 else (if x.1 = 68 then E9_68 x.2 else (if x.1 = 80 then E9_80 x.2 else (if x.1 = 96 then E9_96 x.2 else (if x.1 = 112 then E9_112 x.2 else (if x.1 = 160 then E9_160 x.2 else (if x.1 = 176 then E9_176 x.2 else (if x.1 = 192 then E9_192 x.2 else (if x.1 = 208 then E9_208 x.2 else (E9_n x))))))))))))
noncomputable def F9 : (Int × Bool × KD0 × KD0 × Unit) → KD7 := fun x => (E9 x).getD (dflt (.tup KT4 KT5))
noncomputable def G9 : (Int × Bool × KD0 × KD0 × Unit) → Bool := fun x => (E9 x).isSome
theorem p9 : ∀ x, G9 x = true → PureOK Try.prog 9 (mkA [(.int .i64), .bool, KT4, KT4] x) ⟨(.tup KT4 KT5), F9 x⟩ := fun x => (PureOK.iteE (T := (.tup KT4 KT5)) (c := x.1 = 16) (a := E9_16 x.2) (b := if x.1 = 32 then E9_32 x.2 else (if x.1 = 48 then E9_48 x.2 else (if x.1 = 64 then E9_64 x.2 else (if x.1 = 68 then E9_68 x.2 else (if x.1 = 80 then E9_80 x.2 else (if x.1 = 96 then E9_96 x.2 else (if x.1 = 112 then E9_112 x.2 else (if x.1 = 160 then E9_160 x.2 else (if x.1 = 176 then E9_176 x.2 else (if x.1 = 192 then E9_192 x.2 else (if x.1 = 208 then E9_208 x.2 else (E9_n x)))))))))))) (fun e => by have h := p9_16 x.2; rw [show ((16 : Int), x.2) = x from Prod.ext e.symm rfl] at h; exact h) (fun _ => (PureOK.iteE (T := (.tup KT4 KT5)) (c := x.1 = 32) (a := E9_32 x.2) (b := if x.1 = 48 then E9_48 x.2 else (if x.1 = 64 then E9_64 x.2 else (if x.1 = 68 then E9_68 x.2 else (if x.1 = 80 then E9_80 x.2 else (if x.1 = 96 then E9_96 x.2 else (if x.1 = 112 then E9_112 x.2 else (if x.1 = 160 then E9_160 x.2 else (if x.1 = 176 then E9_176 x.2 else (if x.1 = 192 then E9_192 x.2 else (if x.1 = 208 then E9_208 x.2 else (E9_n x))))))))))) (fun e => by have h := p9_32 x.2; rw [show ((32 : Int), x.2) = x from Prod.ext e.symm rfl] at h; exact h) (fun _ => (PureOK.iteE (T := (.tup KT4 KT5)) (c := x.1 = 48) (a := E9_48 x.2) (b := if x.1 = 64 then E9_64 x.2 else (if x.1 = 68 then E9_68 x.2 else (if x.1 = 80 then E9_80 x.2 else (if x.1 = 96 then E9_96 x.2 else (if x.1 = 112 then E9_112 x.2 else (if x.1 = 160 then E9_160 x.2 else (if x.1 = 176 then E9_176 x.2 else (if x.1 = 192 then E9_192 x.2 else (if x.1 = 208 then E9_208 x.2 else (E9_n x)))))))))) (fun e => by have h := p9_48 x.2; rw [show ((48 : Int), x.2) = x from Prod.ext e.symm rfl] at h; exact h) (fun _ => (PureOK.iteE (T := (.tup KT4 KT5)) (c := x.1 = 64) (a := E9_64 x.2) (b := if x.1 = 68 then E9_68 x.2 else (if x.1 = 80 then E9_80 x.2 else (if x.1 = 96 then E9_96 x.2 else (if x.1 = 112 then E9_112 x.2 else (if x.1 = 160 then E9_160 x.2 else (if x.1 = 176 then E9_176 x.2 else (if x.1 = 192 then E9_192 x.2 else (if x.1 = 208 then E9_208 x.2 else (E9_n x))))))))) (fun e => by have h := p9_64 x.2; rw [show ((64 : Int), x.2) = x from Prod.ext e.symm rfl] at h; exact h) (fun _ => (PureOK.iteE (T := (.tup KT4 KT5)) (c := x.1 = 68) (a := E9_68 x.2) (b := if x.1 = 80 then E9_80 x.2 else (if x.1 = 96 then E9_96 x.2 else (if x.1 = 112 then E9_112 x.2 else (if x.1 = 160 then E9_160 x.2 else (if x.1 = 176 then E9_176 x.2 else (if x.1 = 192 then E9_192 x.2 else (if x.1 = 208 then E9_208 x.2 else (E9_n x)))))))) (fun e => by have h := p9_68 x.2; rw [show ((68 : Int), x.2) = x from Prod.ext e.symm rfl] at h; exact h) (fun _ => (PureOK.iteE (T := (.tup KT4 KT5)) (c := x.1 = 80) (a := E9_80 x.2) (b := if x.1 = 96 then E9_96 x.2 else (if x.1 = 112 then E9_112 x.2 else (if x.1 = 160 then E9_160 x.2 else (if x.1 = 176 then E9_176 x.2 else (if x.1 = 192 then E9_192 x.2 else (if x.1 = 208 then E9_208 x.2 else (E9_n x))))))) (fun e => by have h := p9_80 x.2; rw [show ((80 : Int), x.2) = x from Prod.ext e.symm rfl] at h; exact h) (fun _ => (PureOK.iteE (T := (.tup KT4 KT5)) (c := x.1 = 96) (a := E9_96 x.2) (b := if x.1 = 112 then E9_112 x.2 else (if x.1 = 160 then E9_160 x.2 else (if x.1 = 176 then E9_176 x.2 else (if x.1 = 192 then E9_192 x.2 else (if x.1 = 208 then E9_208 x.2 else (E9_n x)))))) (fun e => by have h := p9_96 x.2; rw [show ((96 : Int), x.2) = x from Prod.ext e.symm rfl] at h; exact h) (fun _ => (PureOK.iteE (T := (.tup KT4 KT5)) (c := x.1 = 112) (a := E9_112 x.2) (b := if x.1 = 160 then E9_160 x.2 else (if x.1 = 176 then E9_176 x.2 else (if x.1 = 192 then E9_192 x.2 else (if x.1 = 208 then E9_208 x.2 else (E9_n x))))) (fun e => by have h := p9_112 x.2; rw [show ((112 : Int), x.2) = x from Prod.ext e.symm rfl] at h; exact h) (fun _ => (PureOK.iteE (T := (.tup KT4 KT5)) (c := x.1 = 160) (a := E9_160 x.2) (b := if x.1 = 176 then E9_176 x.2 else (if x.1 = 192 then E9_192 x.2 else (if x.1 = 208 then E9_208 x.2 else (E9_n x)))) (fun e => by have h := p9_160 x.2; rw [show ((160 : Int), x.2) = x from Prod.ext e.symm rfl] at h; exact h) (fun _ => (PureOK.iteE (T := (.tup KT4 KT5)) (c := x.1 = 176) (a := E9_176 x.2) (b := if x.1 = 192 then E9_192 x.2 else (if x.1 = 208 then E9_208 x.2 else (E9_n x))) (fun e => by have h := p9_176 x.2; rw [show ((176 : Int), x.2) = x from Prod.ext e.symm rfl] at h; exact h) (fun _ => (PureOK.iteE (T := (.tup KT4 KT5)) (c := x.1 = 192) (a := E9_192 x.2) (b := if x.1 = 208 then E9_208 x.2 else (E9_n x)) (fun e => by have h := p9_192 x.2; rw [show ((192 : Int), x.2) = x from Prod.ext e.symm rfl] at h; exact h) (fun _ => (PureOK.iteE (T := (.tup KT4 KT5)) (c := x.1 = 208) (a := E9_208 x.2) (b := E9_n x) (fun e => by have h := p9_208 x.2; rw [show ((208 : Int), x.2) = x from Prod.ext e.symm rfl] at h; exact h) (fun _ => (p9_n x)))))))))))))))))))))))))
noncomputable def kn10 : Kn := kOf [(8, sm [(.int .i64), .bool, KT4, KT4] (.tup KT4 KT5) F8 G8), (12, sm [(.int .i64)] (.int .i64) F12 G12)]
theorem knOK10 : KOK Try.prog kn10 := (KOK.cons Try.call8 (SmOK.sm p8) (KOK.cons Try.call12 (SmOK.sm p12) KOK.nil))
noncomputable def C10 : Cx := CxL Try.Θ kn10 (lOf [])
theorem CxOK10 : CxOK Try.prog C10 := ⟨Try.tabOK, knOK10, by kernel_rfl⟩
theorem LOK10 : LOK Try.prog C10 0 (bodyF Try.f10) := (Lall.LOK rfl (by kernel_rfl) trivial)
noncomputable def E10 : (Int × Bool × KD0 × KD0 × Unit) → Option (Bool × (Bool × Unit)) := fun x => S10 F8 G8 F12 G12  x.1 x.2.1 x.2.2.1 x.2.2.2.1
noncomputable def F10 : (Int × Bool × KD0 × KD0 × Unit) → (Bool × (Bool × Unit)) := fun x => (E10 x).getD (dflt KT8)
noncomputable def G10 : (Int × Bool × KD0 × KD0 × Unit) → Bool := fun x => (E10 x).isSome
theorem p10 : ∀ x, G10 x = true → PureOK Try.prog 10 (mkA [(.int .i64), .bool, KT4, KT4] x) ⟨KT8, F10 x⟩ :=
  PureOK.ofS (ts := [(.int .i64), .bool, KT4, KT4]) (T := KT8) (S := E10) CxOK10 Try.func10 (LOK.fn LOK10) (fun x => t10 F8 G8 F12 G12  x.1 x.2.1 x.2.2.1 x.2.2.2.1)
noncomputable def kn11 : Kn := kOf [(9, sm [(.int .i64), .bool, KT4, KT4] (.tup KT4 KT5) F9 G9), (13, sm [(.int .i64)] (.int .i64) F13 G13)]
theorem knOK11 : KOK Try.prog kn11 := (KOK.cons Try.call9 (SmOK.sm p9) (KOK.cons Try.call13 (SmOK.sm p13) KOK.nil))
noncomputable def C11 : Cx := CxL Try.Θ kn11 (lOf [])
theorem CxOK11 : CxOK Try.prog C11 := ⟨Try.tabOK, knOK11, by kernel_rfl⟩
theorem LOK11 : LOK Try.prog C11 0 (bodyF Try.f11) := (Lall.LOK rfl (by kernel_rfl) trivial)
noncomputable def E11 : (Int × Bool × KD0 × KD0 × Unit) → Option (Bool × (Bool × Unit)) := fun x => S11 F9 G9 F13 G13  x.1 x.2.1 x.2.2.1 x.2.2.2.1
noncomputable def F11 : (Int × Bool × KD0 × KD0 × Unit) → (Bool × (Bool × Unit)) := fun x => (E11 x).getD (dflt KT8)
noncomputable def G11 : (Int × Bool × KD0 × KD0 × Unit) → Bool := fun x => (E11 x).isSome
theorem p11 : ∀ x, G11 x = true → PureOK Try.prog 11 (mkA [(.int .i64), .bool, KT4, KT4] x) ⟨KT8, F11 x⟩ :=
  PureOK.ofS (ts := [(.int .i64), .bool, KT4, KT4]) (T := KT8) (S := E11) CxOK11 Try.func11 (LOK.fn LOK11) (fun x => t11 F9 G9 F13 G13  x.1 x.2.1 x.2.2.1 x.2.2.2.1)
noncomputable def kn3 : Kn := kOf [(7, sm [KT4] KT4 F7 G7), (8, sm [(.int .i64), .bool, KT4, KT4] (.tup KT4 KT5) F8 G8), (9, sm [(.int .i64), .bool, KT4, KT4] (.tup KT4 KT5) F9 G9), (10, sm [(.int .i64), .bool, KT4, KT4] KT8 F10 G10), (11, sm [(.int .i64), .bool, KT4, KT4] KT8 F11 G11), (12, sm [(.int .i64)] (.int .i64) F12 G12), (13, sm [(.int .i64)] (.int .i64) F13 G13), (14, sm [] .bool F14 G14)]
theorem knOK3 : KOK Try.prog kn3 := (KOK.cons Try.call7 (SmOK.sm p7) (KOK.cons Try.call8 (SmOK.sm p8) (KOK.cons Try.call9 (SmOK.sm p9) (KOK.cons Try.call10 (SmOK.sm p10) (KOK.cons Try.call11 (SmOK.sm p11) (KOK.cons Try.call12 (SmOK.sm p12) (KOK.cons Try.call13 (SmOK.sm p13) (KOK.cons Try.call14 (SmOK.sm p14) KOK.nil))))))))
noncomputable def C3 : Cx := CxL Try.Θ kn3 (lOf [])
theorem CxOK3 : CxOK Try.prog C3 := ⟨Try.tabOK, knOK3, by kernel_rfl⟩
theorem LOK3 : LOK Try.prog C3 0 (bodyF Try.f3) := (Lall.LOK rfl (by kernel_rfl) trivial)
noncomputable def E3 : (Int × Bool × (List KD0) × Unit) → Option Bool := fun x => S3 F7 G7 F8 G8 F9 G9 F10 G10 F11 G11 F12 G12 F13 G13 F14 G14  x.1 x.2.1 x.2.2.1
noncomputable def F3 : (Int × Bool × (List KD0) × Unit) → Bool := fun x => (E3 x).getD (dflt .bool)
noncomputable def G3 : (Int × Bool × (List KD0) × Unit) → Bool := fun x => (E3 x).isSome
theorem p3 : ∀ x, G3 x = true → PureOK Try.prog 3 (mkA [(.int .i64), .bool, (.arr 2 KT4)] x) ⟨.bool, F3 x⟩ :=
  PureOK.ofS (ts := [(.int .i64), .bool, (.arr 2 KT4)]) (T := .bool) (S := E3) CxOK3 Try.func3 (LOK.fn LOK3) (fun x => t3 F7 G7 F8 G8 F9 G9 F10 G10 F11 G11 F12 G12 F13 G13 F14 G14  x.1 x.2.1 x.2.2.1)
noncomputable def kn35 : Kn := kOf []
theorem knOK35 : KOK Try.prog kn35 := KOK.nil
noncomputable def C35 : Cx := CxL Try.Θ kn35 (lOf [])
theorem CxOK35 : CxOK Try.prog C35 := ⟨Try.tabOK, knOK35, by kernel_rfl⟩
theorem LOK35 : LOK Try.prog C35 0 (bodyF Try.f35) := (Lall.LOK rfl (by kernel_rfl) trivial)
noncomputable def E35 : ((Int × (Int × Unit)) × Int × Unit) → Option Bool := fun x => S35   x.1 x.2.1
noncomputable def F35 : ((Int × (Int × Unit)) × Int × Unit) → Bool := fun x => (E35 x).getD (dflt .bool)
noncomputable def G35 : ((Int × (Int × Unit)) × Int × Unit) → Bool := fun x => (E35 x).isSome
theorem p35 : ∀ x, G35 x = true → PureOK Try.prog 35 (mkA [(.pair (.int .u64) KT1), (.int .u64)] x) ⟨.bool, F35 x⟩ :=
  PureOK.ofS (ts := [(.pair (.int .u64) KT1), (.int .u64)]) (T := .bool) (S := E35) CxOK35 Try.func35 (LOK.fn LOK35) (fun x => t35   x.1 x.2.1)
noncomputable def kn17 : Kn := kOf [(35, sm [(.pair (.int .u64) KT1), (.int .u64)] .bool F35 G35)]
theorem knOK17 : KOK Try.prog kn17 := (KOK.cons Try.call35 (SmOK.sm p35) KOK.nil)
noncomputable def C17 : Cx := CxL Try.Θ kn17 (lOf [])
theorem CxOK17 : CxOK Try.prog C17 := ⟨Try.tabOK, knOK17, by kernel_rfl⟩
theorem LOK17 : LOK Try.prog C17 0 (bodyF Try.f17) := (Lall.LOK rfl (by kernel_rfl) trivial)
noncomputable def E17 : (KD0 × Int × Unit) → Option Bool := fun x => S17 F35 G35  x.1 x.2.1
noncomputable def F17 : (KD0 × Int × Unit) → Bool := fun x => (E17 x).getD (dflt .bool)
noncomputable def G17 : (KD0 × Int × Unit) → Bool := fun x => (E17 x).isSome
theorem p17 : ∀ x, G17 x = true → PureOK Try.prog 17 (mkA [KT4, (.int .u64)] x) ⟨.bool, F17 x⟩ :=
  PureOK.ofS (ts := [KT4, (.int .u64)]) (T := .bool) (S := E17) CxOK17 Try.func17 (LOK.fn LOK17) (fun x => t17 F35 G35  x.1 x.2.1)
noncomputable def kn15 : Kn := kOf [(17, sm [KT4, (.int .u64)] .bool F17 G17)]
theorem knOK15 : KOK Try.prog kn15 := (KOK.cons Try.call17 (SmOK.sm p17) KOK.nil)
noncomputable def V15_0 : (Unit × (List Int) × Int × KD0 × Unit) → Option ((Unit × (List Int) × Int × KD0 × Unit) ⊕ ((Unit) ⊕ (Int × Bool × Unit))) := fun x => R15_0 F17 G17 (fun _ => (Sum.inl (()))) (fun _ => false) x.1 x.2.1 x.2.2.1 x.2.2.2.1
noncomputable def W15_0 : (Unit × (List Int) × Int × KD0 × Unit) → ((Unit) ⊕ (Int × Bool × Unit)) := whV (hd := hd15_0) (ys := ys15_0) V15_0
noncomputable def Q15_0 : (Unit × (List Int) × Int × KD0 × Unit) → Bool := whK (hd := hd15_0) (ys := ys15_0) V15_0
noncomputable def C15 : Cx := CxL Try.Θ kn15 (lOf [(0, orc 48 26 0 hd15_0 ys15_0 W15_0 Q15_0)])
theorem CxOK15 : CxOK Try.prog C15 := ⟨Try.tabOK, knOK15, by kernel_rfl⟩
theorem l15_0 : Lone Try.prog C15 0 (.loop (loopB 0 (bodyF Try.f15))) (orc 48 26 0 hd15_0 ys15_0 W15_0 Q15_0) :=
  Lone.of CxOK15 (Lall.LOK rfl (by kernel_rfl) (Lall.skip (by kernel_rfl) trivial)) (by kernel_rfl) (fun x => (r15_0 F17 G17 W15_0 Q15_0 x.1 x.2.1 x.2.2.1 x.2.2.2.1).trans (by rfl))
theorem LOK15 : LOK Try.prog C15 0 (bodyF Try.f15) := (Lall.LOK rfl (by kernel_rfl) (Lall.cons (by kernel_rfl) l15_0 trivial))
noncomputable def E15 : (KD0 × Int × Unit) → Option (Int × (Bool × Unit)) := fun x => S15 F17 G17 W15_0 Q15_0 x.1 x.2.1
noncomputable def F15 : (KD0 × Int × Unit) → (Int × (Bool × Unit)) := fun x => (E15 x).getD (dflt KT6)
noncomputable def G15 : (KD0 × Int × Unit) → Bool := fun x => (E15 x).isSome
theorem p15 : ∀ x, G15 x = true → PureOK Try.prog 15 (mkA [KT4, (.int .u64)] x) ⟨KT6, F15 x⟩ :=
  PureOK.ofS (ts := [KT4, (.int .u64)]) (T := KT6) (S := E15) CxOK15 Try.func15 (LOK.fn LOK15) (fun x => t15 F17 G17 W15_0 Q15_0 x.1 x.2.1)
noncomputable def kn45 : Kn := kOf []
theorem knOK45 : KOK Try.prog kn45 := KOK.nil
noncomputable def C45 : Cx := CxL Try.Θ kn45 (lOf [])
theorem CxOK45 : CxOK Try.prog C45 := ⟨Try.tabOK, knOK45, by kernel_rfl⟩
theorem LOK45 : LOK Try.prog C45 0 (bodyF Try.f45) := (Lall.LOK rfl (by kernel_rfl) trivial)
noncomputable def E45 : (Int × Unit) → Option Int := fun x => S45   x.1
noncomputable def F45 : (Int × Unit) → Int := fun x => (E45 x).getD (dflt (.int .u64))
noncomputable def G45 : (Int × Unit) → Bool := fun x => (E45 x).isSome
theorem p45 : ∀ x, G45 x = true → PureOK Try.prog 45 (mkA [(.int .u64)] x) ⟨(.int .u64), F45 x⟩ :=
  PureOK.ofS (ts := [(.int .u64)]) (T := (.int .u64)) (S := E45) CxOK45 Try.func45 (LOK.fn LOK45) (fun x => t45   x.1)
noncomputable def kn34 : Kn := kOf [(45, sm [(.int .u64)] (.int .u64) F45 G45)]
theorem knOK34 : KOK Try.prog kn34 := (KOK.cons Try.call45 (SmOK.sm p45) KOK.nil)
noncomputable def C34 : Cx := CxL Try.Θ kn34 (lOf [])
theorem CxOK34 : CxOK Try.prog C34 := ⟨Try.tabOK, knOK34, by kernel_rfl⟩
theorem LOK34 : LOK Try.prog C34 0 (bodyF Try.f34) := (Lall.LOK rfl (by kernel_rfl) trivial)
noncomputable def E34 : (Int × Bool × Int × Int × Unit) → Option (Bool × (Int × Unit)) := fun x => S34 F45 G45  x.1 x.2.1 x.2.2.1 x.2.2.2.1
noncomputable def F34 : (Int × Bool × Int × Int × Unit) → (Bool × (Int × Unit)) := fun x => (E34 x).getD (dflt (.tup .bool KT9))
noncomputable def G34 : (Int × Bool × Int × Int × Unit) → Bool := fun x => (E34 x).isSome
theorem p34 : ∀ x, G34 x = true → PureOK Try.prog 34 (mkA [(.int .i64), .bool, (.int .u64), (.int .u64)] x) ⟨(.tup .bool KT9), F34 x⟩ :=
  PureOK.ofS (ts := [(.int .i64), .bool, (.int .u64), (.int .u64)]) (T := (.tup .bool KT9)) (S := E34) CxOK34 Try.func34 (LOK.fn LOK34) (fun x => t34 F45 G45  x.1 x.2.1 x.2.2.1 x.2.2.2.1)
noncomputable def kn16 : Kn := kOf [(34, sm [(.int .i64), .bool, (.int .u64), (.int .u64)] (.tup .bool KT9) F34 G34)]
theorem knOK16 : KOK Try.prog kn16 := (KOK.cons Try.call34 (SmOK.sm p34) KOK.nil)
noncomputable def C16 : Cx := CxL Try.Θ kn16 (lOf [])
theorem CxOK16 : CxOK Try.prog C16 := ⟨Try.tabOK, knOK16, by kernel_rfl⟩
theorem LOK16 : LOK Try.prog C16 0 (bodyF Try.f16) := (Lall.LOK rfl (by kernel_rfl) trivial)
noncomputable def E16 : (Int × Bool × Int × Int × Unit) → Option (Bool × (Bool × Unit)) := fun x => S16 F34 G34  x.1 x.2.1 x.2.2.1 x.2.2.2.1
noncomputable def F16 : (Int × Bool × Int × Int × Unit) → (Bool × (Bool × Unit)) := fun x => (E16 x).getD (dflt KT8)
noncomputable def G16 : (Int × Bool × Int × Int × Unit) → Bool := fun x => (E16 x).isSome
theorem p16 : ∀ x, G16 x = true → PureOK Try.prog 16 (mkA [(.int .i64), .bool, (.int .u64), (.int .u64)] x) ⟨KT8, F16 x⟩ :=
  PureOK.ofS (ts := [(.int .i64), .bool, (.int .u64), (.int .u64)]) (T := KT8) (S := E16) CxOK16 Try.func16 (LOK.fn LOK16) (fun x => t16 F34 G34  x.1 x.2.1 x.2.2.1 x.2.2.2.1)
noncomputable def kn4 : Kn := kOf [(7, sm [KT4] KT4 F7 G7), (8, sm [(.int .i64), .bool, KT4, KT4] (.tup KT4 KT5) F8 G8), (14, sm [] .bool F14 G14), (15, sm [KT4, (.int .u64)] KT6 F15 G15), (16, sm [(.int .i64), .bool, (.int .u64), (.int .u64)] KT8 F16 G16), (17, sm [KT4, (.int .u64)] .bool F17 G17)]
theorem knOK4 : KOK Try.prog kn4 := (KOK.cons Try.call7 (SmOK.sm p7) (KOK.cons Try.call8 (SmOK.sm p8) (KOK.cons Try.call14 (SmOK.sm p14) (KOK.cons Try.call15 (SmOK.sm p15) (KOK.cons Try.call16 (SmOK.sm p16) (KOK.cons Try.call17 (SmOK.sm p17) KOK.nil))))))
noncomputable def V4_0 : (Int × Bool × Unit × Unit × Unit × Unit × Bool × (List Int) × (List Int) × Int × KD0 × KD0 × KD0 × KD0 × Unit) → Option ((Int × Bool × Unit × Unit × Unit × Unit × Bool × (List Int) × (List Int) × Int × KD0 × KD0 × KD0 × KD0 × Unit) ⊕ ((Unit) ⊕ (Bool × Unit))) := fun x => R4_0 F7 G7 F8 G8 F14 G14 F15 G15 F16 G16 F17 G17 (fun _ => (Sum.inl (()))) (fun _ => false) x.1 x.2.1 x.2.2.1 x.2.2.2.1 x.2.2.2.2.1 x.2.2.2.2.2.1 x.2.2.2.2.2.2.1 x.2.2.2.2.2.2.2.1 x.2.2.2.2.2.2.2.2.1 x.2.2.2.2.2.2.2.2.2.1 x.2.2.2.2.2.2.2.2.2.2.1 x.2.2.2.2.2.2.2.2.2.2.2.1 x.2.2.2.2.2.2.2.2.2.2.2.2.1 x.2.2.2.2.2.2.2.2.2.2.2.2.2.1
noncomputable def W4_0 : (Int × Bool × Unit × Unit × Unit × Unit × Bool × (List Int) × (List Int) × Int × KD0 × KD0 × KD0 × KD0 × Unit) → ((Unit) ⊕ (Bool × Unit)) := whV (hd := hd4_0) (ys := ys4_0) V4_0
noncomputable def Q4_0 : (Int × Bool × Unit × Unit × Unit × Unit × Bool × (List Int) × (List Int) × Int × KD0 × KD0 × KD0 × KD0 × Unit) → Bool := whK (hd := hd4_0) (ys := ys4_0) V4_0
noncomputable def C4 : Cx := CxL Try.Θ kn4 (lOf [(0, orc 119 65 0 hd4_0 ys4_0 W4_0 Q4_0)])
theorem CxOK4 : CxOK Try.prog C4 := ⟨Try.tabOK, knOK4, by kernel_rfl⟩
theorem l4_0 : Lone Try.prog C4 0 (.loop (loopB 0 (bodyF Try.f4))) (orc 119 65 0 hd4_0 ys4_0 W4_0 Q4_0) :=
  Lone.of CxOK4 (Lall.LOK rfl (by kernel_rfl) (Lall.skip (by kernel_rfl) trivial)) (by kernel_rfl) (fun x => (r4_0 F7 G7 F8 G8 F14 G14 F15 G15 F16 G16 F17 G17 W4_0 Q4_0 x.1 x.2.1 x.2.2.1 x.2.2.2.1 x.2.2.2.2.1 x.2.2.2.2.2.1 x.2.2.2.2.2.2.1 x.2.2.2.2.2.2.2.1 x.2.2.2.2.2.2.2.2.1 x.2.2.2.2.2.2.2.2.2.1 x.2.2.2.2.2.2.2.2.2.2.1 x.2.2.2.2.2.2.2.2.2.2.2.1 x.2.2.2.2.2.2.2.2.2.2.2.2.1 x.2.2.2.2.2.2.2.2.2.2.2.2.2.1).trans (by rfl))
theorem LOK4 : LOK Try.prog C4 0 (bodyF Try.f4) := (Lall.LOK rfl (by kernel_rfl) (Lall.cons (by kernel_rfl) l4_0 trivial))
noncomputable def E4 : (Int × Bool × (List KD0) × Unit) → Option Bool := fun x => S4 F7 G7 F8 G8 F14 G14 F15 G15 F16 G16 F17 G17 W4_0 Q4_0 x.1 x.2.1 x.2.2.1
noncomputable def F4 : (Int × Bool × (List KD0) × Unit) → Bool := fun x => (E4 x).getD (dflt .bool)
noncomputable def G4 : (Int × Bool × (List KD0) × Unit) → Bool := fun x => (E4 x).isSome
theorem p4 : ∀ x, G4 x = true → PureOK Try.prog 4 (mkA [(.int .i64), .bool, (.arr 2 KT4)] x) ⟨.bool, F4 x⟩ :=
  PureOK.ofS (ts := [(.int .i64), .bool, (.arr 2 KT4)]) (T := .bool) (S := E4) CxOK4 Try.func4 (LOK.fn LOK4) (fun x => t4 F7 G7 F8 G8 F14 G14 F15 G15 F16 G16 F17 G17 W4_0 Q4_0 x.1 x.2.1 x.2.2.1)
noncomputable def kn5 : Kn := kOf [(7, sm [KT4] KT4 F7 G7), (10, sm [(.int .i64), .bool, KT4, KT4] KT8 F10 G10), (14, sm [] .bool F14 G14), (15, sm [KT4, (.int .u64)] KT6 F15 G15), (16, sm [(.int .i64), .bool, (.int .u64), (.int .u64)] KT8 F16 G16)]
theorem knOK5 : KOK Try.prog kn5 := (KOK.cons Try.call7 (SmOK.sm p7) (KOK.cons Try.call10 (SmOK.sm p10) (KOK.cons Try.call14 (SmOK.sm p14) (KOK.cons Try.call15 (SmOK.sm p15) (KOK.cons Try.call16 (SmOK.sm p16) KOK.nil)))))
noncomputable def C5 : Cx := CxL Try.Θ kn5 (lOf [])
theorem CxOK5 : CxOK Try.prog C5 := ⟨Try.tabOK, knOK5, by kernel_rfl⟩
theorem LOK5 : LOK Try.prog C5 0 (bodyF Try.f5) := (Lall.LOK rfl (by kernel_rfl) trivial)
noncomputable def E5 : (Int × Bool × (List KD0) × Unit) → Option Bool := fun x => S5 F7 G7 F10 G10 F14 G14 F15 G15 F16 G16  x.1 x.2.1 x.2.2.1
noncomputable def F5 : (Int × Bool × (List KD0) × Unit) → Bool := fun x => (E5 x).getD (dflt .bool)
noncomputable def G5 : (Int × Bool × (List KD0) × Unit) → Bool := fun x => (E5 x).isSome
theorem p5 : ∀ x, G5 x = true → PureOK Try.prog 5 (mkA [(.int .i64), .bool, (.arr 2 KT4)] x) ⟨.bool, F5 x⟩ :=
  PureOK.ofS (ts := [(.int .i64), .bool, (.arr 2 KT4)]) (T := .bool) (S := E5) CxOK5 Try.func5 (LOK.fn LOK5) (fun x => t5 F7 G7 F10 G10 F14 G14 F15 G15 F16 G16  x.1 x.2.1 x.2.2.1)
noncomputable def kn6 : Kn := kOf [(7, sm [KT4] KT4 F7 G7), (8, sm [(.int .i64), .bool, KT4, KT4] (.tup KT4 KT5) F8 G8), (12, sm [(.int .i64)] (.int .i64) F12 G12), (14, sm [] .bool F14 G14)]
theorem knOK6 : KOK Try.prog kn6 := (KOK.cons Try.call7 (SmOK.sm p7) (KOK.cons Try.call8 (SmOK.sm p8) (KOK.cons Try.call12 (SmOK.sm p12) (KOK.cons Try.call14 (SmOK.sm p14) KOK.nil))))
noncomputable def C6 : Cx := CxL Try.Θ kn6 (lOf [])
theorem CxOK6 : CxOK Try.prog C6 := ⟨Try.tabOK, knOK6, by kernel_rfl⟩
theorem LOK6 : LOK Try.prog C6 0 (bodyF Try.f6) := (Lall.LOK rfl (by kernel_rfl) trivial)
noncomputable def E6 : (Int × Bool × (List KD0) × Unit) → Option Bool := fun x => S6 F7 G7 F8 G8 F12 G12 F14 G14  x.1 x.2.1 x.2.2.1
noncomputable def F6 : (Int × Bool × (List KD0) × Unit) → Bool := fun x => (E6 x).getD (dflt .bool)
noncomputable def G6 : (Int × Bool × (List KD0) × Unit) → Bool := fun x => (E6 x).isSome
theorem p6 : ∀ x, G6 x = true → PureOK Try.prog 6 (mkA [(.int .i64), .bool, (.arr 2 KT4)] x) ⟨.bool, F6 x⟩ :=
  PureOK.ofS (ts := [(.int .i64), .bool, (.arr 2 KT4)]) (T := .bool) (S := E6) CxOK6 Try.func6 (LOK.fn LOK6) (fun x => t6 F7 G7 F8 G8 F12 G12 F14 G14  x.1 x.2.1 x.2.2.1)
end Go.Proofs
