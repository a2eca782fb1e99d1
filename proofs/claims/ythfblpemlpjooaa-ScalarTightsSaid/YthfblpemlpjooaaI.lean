import Derived.Test.YthfblpemlpjooaaB
import Derived.Test.YthfblpemlpjooaaGc
namespace Go.Proofs
open Go.GX
set_option linter.unusedVariables false
set_option maxRecDepth 100000
noncomputable def F12 : Unit → Bool := fun _ => true
noncomputable def G12 : Unit → Bool := fun _ => true
theorem t12 : fnT ⟨true, Try.Θ, KX Try.Θ Try.F (fun _ => none) 100 10, 100, fun _ => none⟩ Try.f12 .bool [] = some true := by kernel_rfl
theorem p12 : ∀ x, G12 x = true → PureOK Try.prog 12 (mkA [] x) ⟨.bool, F12 x⟩ := fun x _ => fnT_pure Try.tabOK (KX_ok Try.tabOK Try.FOK KOK.none (by kernel_rfl) 10) (by kernel_rfl) Try.func12 t12
noncomputable def kn44 : Kn := kOf []
theorem knOK44 : KOK Try.prog kn44 := KOK.nil
noncomputable def C44 : Cx := CxL Try.Θ kn44 (lOf [])
theorem CxOK44 : CxOK Try.prog C44 := ⟨Try.tabOK, knOK44, by kernel_rfl⟩
theorem LOK44 : LOK Try.prog C44 0 (bodyF Try.f44) := (Lall.LOK rfl (by kernel_rfl) trivial)
noncomputable def E44 : (Int × Unit) → Option Int := fun x => S44   x.1
noncomputable def F44 : (Int × Unit) → Int := fun x => (E44 x).getD (dflt (.int .i64))
noncomputable def G44 : (Int × Unit) → Bool := fun x => (E44 x).isSome
theorem p44 : ∀ x, G44 x = true → PureOK Try.prog 44 (mkA [(.int .u64)] x) ⟨(.int .i64), F44 x⟩ :=
  PureOK.ofS (ts := [(.int .u64)]) (T := (.int .i64)) (S := E44) CxOK44 Try.func44 (LOK.fn LOK44) (fun x => t44   x.1)
noncomputable def kn43 : Kn := kOf []
theorem knOK43 : KOK Try.prog kn43 := KOK.nil
noncomputable def C43 : Cx := CxL Try.Θ kn43 (lOf [])
theorem CxOK43 : CxOK Try.prog C43 := ⟨Try.tabOK, knOK43, by kernel_rfl⟩
theorem LOK43 : LOK Try.prog C43 0 (bodyF Try.f43) := (Lall.LOK rfl (by kernel_rfl) trivial)
noncomputable def E43 : (Int × Int × Unit) → Option (Int × (Int × Unit)) := fun x => S43   x.1 x.2.1
noncomputable def F43 : (Int × Int × Unit) → (Int × (Int × Unit)) := fun x => (E43 x).getD (dflt (.pair (.int .u64) (.pair (.int .u64) .unit)))
noncomputable def G43 : (Int × Int × Unit) → Bool := fun x => (E43 x).isSome
theorem p43 : ∀ x, G43 x = true → PureOK Try.prog 43 (mkA [(.int .u64), (.int .u64)] x) ⟨(.pair (.int .u64) (.pair (.int .u64) .unit)), F43 x⟩ :=
  PureOK.ofS (ts := [(.int .u64), (.int .u64)]) (T := (.pair (.int .u64) (.pair (.int .u64) .unit))) (S := E43) CxOK43 Try.func43 (LOK.fn LOK43) (fun x => t43   x.1 x.2.1)
noncomputable def kn32 : Kn := kOf [(43, sm [(.int .u64), (.int .u64)] (.pair (.int .u64) (.pair (.int .u64) .unit)) F43 G43), (44, sm [(.int .u64)] (.int .i64) F44 G44)]
theorem knOK32 : KOK Try.prog kn32 := (KOK.cons Try.call43 (SmOK.sm p43) (KOK.cons Try.call44 (SmOK.sm p44) KOK.nil))
noncomputable def C32 : Cx := CxL Try.Θ kn32 (lOf [])
theorem CxOK32 : CxOK Try.prog C32 := ⟨Try.tabOK, knOK32, by kernel_rfl⟩
theorem LOK32 : LOK Try.prog C32 0 (bodyF Try.f32) := (Lall.LOK rfl (by kernel_rfl) trivial)
noncomputable def E32 : (Int × Int × Unit) → Option (Int × (Int × Unit)) := fun x => S32 F43 G43 F44 G44  x.1 x.2.1
noncomputable def F32 : (Int × Int × Unit) → (Int × (Int × Unit)) := fun x => (E32 x).getD (dflt (.pair (.int .u64) (.pair (.int .u64) .unit)))
noncomputable def G32 : (Int × Int × Unit) → Bool := fun x => (E32 x).isSome
theorem p32 : ∀ x, G32 x = true → PureOK Try.prog 32 (mkA [(.int .u64), (.int .u64)] x) ⟨(.pair (.int .u64) (.pair (.int .u64) .unit)), F32 x⟩ :=
  PureOK.ofS (ts := [(.int .u64), (.int .u64)]) (T := (.pair (.int .u64) (.pair (.int .u64) .unit))) (S := E32) CxOK32 Try.func32 (LOK.fn LOK32) (fun x => t32 F43 G43 F44 G44  x.1 x.2.1)
noncomputable def kn31 : Kn := kOf [(43, sm [(.int .u64), (.int .u64)] (.pair (.int .u64) (.pair (.int .u64) .unit)) F43 G43)]
theorem knOK31 : KOK Try.prog kn31 := (KOK.cons Try.call43 (SmOK.sm p43) KOK.nil)
noncomputable def C31 : Cx := CxL Try.Θ kn31 (lOf [])
theorem CxOK31 : CxOK Try.prog C31 := ⟨Try.tabOK, knOK31, by kernel_rfl⟩
theorem LOK31 : LOK Try.prog C31 0 (bodyF Try.f31) := (Lall.LOK rfl (by kernel_rfl) trivial)
noncomputable def E31 : ((Int × (Int × Unit)) × (Int × (Int × Unit)) × Unit) → Option ((Int × (Int × Unit)) × (Bool × Unit)) := fun x => S31 F43 G43  x.1 x.2.1
noncomputable def F31 : ((Int × (Int × Unit)) × (Int × (Int × Unit)) × Unit) → ((Int × (Int × Unit)) × (Bool × Unit)) := fun x => (E31 x).getD (dflt (.tup (.pair (.int .u64) (.pair (.int .u64) .unit)) (.tup .bool .tnil)))
noncomputable def G31 : ((Int × (Int × Unit)) × (Int × (Int × Unit)) × Unit) → Bool := fun x => (E31 x).isSome
theorem p31 : ∀ x, G31 x = true → PureOK Try.prog 31 (mkA [(.pair (.int .u64) (.pair (.int .u64) .unit)), (.pair (.int .u64) (.pair (.int .u64) .unit))] x) ⟨(.tup (.pair (.int .u64) (.pair (.int .u64) .unit)) (.tup .bool .tnil)), F31 x⟩ :=
  PureOK.ofS (ts := [(.pair (.int .u64) (.pair (.int .u64) .unit)), (.pair (.int .u64) (.pair (.int .u64) .unit))]) (T := (.tup (.pair (.int .u64) (.pair (.int .u64) .unit)) (.tup .bool .tnil))) (S := E31) CxOK31 Try.func31 (LOK.fn LOK31) (fun x => t31 F43 G43  x.1 x.2.1)
noncomputable def kn13 : Kn := kOf [(31, sm [(.pair (.int .u64) (.pair (.int .u64) .unit)), (.pair (.int .u64) (.pair (.int .u64) .unit))] (.tup (.pair (.int .u64) (.pair (.int .u64) .unit)) (.tup .bool .tnil)) F31 G31), (32, sm [(.int .u64), (.int .u64)] (.pair (.int .u64) (.pair (.int .u64) .unit)) F32 G32)]
theorem knOK13 : KOK Try.prog kn13 := (KOK.cons Try.call31 (SmOK.sm p31) (KOK.cons Try.call32 (SmOK.sm p32) KOK.nil))
noncomputable def V13_0 : (Unit × Unit × Bool × Int × ((Int × (Int × Unit)) × (Int × (Int × Unit))) × ((Int × (Int × Unit)) × (Int × (Int × Unit))) × Unit) → Option ((Unit × Unit × Bool × Int × ((Int × (Int × Unit)) × (Int × (Int × Unit))) × ((Int × (Int × Unit)) × (Int × (Int × Unit))) × Unit) ⊕ (Unit × Unit × Bool × ((Int × (Int × Unit)) × (Int × (Int × Unit))) × ((Int × (Int × Unit)) × (Int × (Int × Unit))) × Unit)) := fun x => R13_0 F31 G31 F32 G32 (fun _ => ((), (), false, ((0, (0, ())), (0, (0, ()))), ((0, (0, ())), (0, (0, ()))), ())) (fun _ => false) x.1 x.2.1 x.2.2.1 x.2.2.2.1 x.2.2.2.2.1 x.2.2.2.2.2.1
noncomputable def W13_0 : (Unit × Unit × Bool × Int × ((Int × (Int × Unit)) × (Int × (Int × Unit))) × ((Int × (Int × Unit)) × (Int × (Int × Unit))) × Unit) → (Unit × Unit × Bool × ((Int × (Int × Unit)) × (Int × (Int × Unit))) × ((Int × (Int × Unit)) × (Int × (Int × Unit))) × Unit) := whV (hd := hd13_0) (ys := ys13_0) V13_0
noncomputable def Q13_0 : (Unit × Unit × Bool × Int × ((Int × (Int × Unit)) × (Int × (Int × Unit))) × ((Int × (Int × Unit)) × (Int × (Int × Unit))) × Unit) → Bool := whK (hd := hd13_0) (ys := ys13_0) V13_0
noncomputable def C13 : Cx := CxL Try.Θ kn13 (lOf [(0, orc 59 26 0 hd13_0 ys13_0 W13_0 Q13_0)])
theorem CxOK13 : CxOK Try.prog C13 := ⟨Try.tabOK, knOK13, by kernel_rfl⟩
theorem l13_0 : Lone Try.prog C13 0 (.loop (loopB 0 (bodyF Try.f13))) (orc 59 26 0 hd13_0 ys13_0 W13_0 Q13_0) :=
  Lone.of CxOK13 (Lall.LOK rfl (by kernel_rfl) (Lall.skip (by kernel_rfl) trivial)) (by kernel_rfl) (fun x => (r13_0 F31 G31 F32 G32 W13_0 Q13_0 x.1 x.2.1 x.2.2.1 x.2.2.2.1 x.2.2.2.2.1 x.2.2.2.2.2.1).trans (by rfl))
theorem LOK13 : LOK Try.prog C13 0 (bodyF Try.f13) := (Lall.LOK rfl (by kernel_rfl) (Lall.cons (by kernel_rfl) l13_0 trivial))
noncomputable def E13 : (((Int × (Int × Unit)) × (Int × (Int × Unit))) × Unit) → Option (((Int × (Int × Unit)) × (Int × (Int × Unit))) × (Bool × Unit)) := fun x => S13 F31 G31 F32 G32 W13_0 Q13_0 x.1
noncomputable def F13 : (((Int × (Int × Unit)) × (Int × (Int × Unit))) × Unit) → (((Int × (Int × Unit)) × (Int × (Int × Unit))) × (Bool × Unit)) := fun x => (E13 x).getD (dflt (.tup (.pair (.pair (.int .u64) (.pair (.int .u64) .unit)) (.pair (.int .u64) (.pair (.int .u64) .unit))) (.tup .bool .tnil)))
noncomputable def G13 : (((Int × (Int × Unit)) × (Int × (Int × Unit))) × Unit) → Bool := fun x => (E13 x).isSome
theorem p13 : ∀ x, G13 x = true → PureOK Try.prog 13 (mkA [(.pair (.pair (.int .u64) (.pair (.int .u64) .unit)) (.pair (.int .u64) (.pair (.int .u64) .unit)))] x) ⟨(.tup (.pair (.pair (.int .u64) (.pair (.int .u64) .unit)) (.pair (.int .u64) (.pair (.int .u64) .unit))) (.tup .bool .tnil)), F13 x⟩ :=
  PureOK.ofS (ts := [(.pair (.pair (.int .u64) (.pair (.int .u64) .unit)) (.pair (.int .u64) (.pair (.int .u64) .unit)))]) (T := (.tup (.pair (.pair (.int .u64) (.pair (.int .u64) .unit)) (.pair (.int .u64) (.pair (.int .u64) .unit))) (.tup .bool .tnil))) (S := E13) CxOK13 Try.func13 (LOK.fn LOK13) (fun x => t13 F31 G31 F32 G32 W13_0 Q13_0 x.1)
noncomputable def kn33 : Kn := kOf []
theorem knOK33 : KOK Try.prog kn33 := KOK.nil
noncomputable def C33 : Cx := CxL Try.Θ kn33 (lOf [])
theorem CxOK33 : CxOK Try.prog C33 := ⟨Try.tabOK, knOK33, by kernel_rfl⟩
theorem LOK33 : LOK Try.prog C33 0 (bodyF Try.f33) := (Lall.LOK rfl (by kernel_rfl) trivial)
noncomputable def E33 : ((Int × (Int × Unit)) × Unit) → Option Bool := fun x => S33   x.1
noncomputable def F33 : ((Int × (Int × Unit)) × Unit) → Bool := fun x => (E33 x).getD (dflt .bool)
noncomputable def G33 : ((Int × (Int × Unit)) × Unit) → Bool := fun x => (E33 x).isSome
theorem p33 : ∀ x, G33 x = true → PureOK Try.prog 33 (mkA [(.pair (.int .u64) (.pair (.int .u64) .unit))] x) ⟨.bool, F33 x⟩ :=
  PureOK.ofS (ts := [(.pair (.int .u64) (.pair (.int .u64) .unit))]) (T := .bool) (S := E33) CxOK33 Try.func33 (LOK.fn LOK33) (fun x => t33   x.1)
noncomputable def kn35 : Kn := kOf []
theorem knOK35 : KOK Try.prog kn35 := KOK.nil
noncomputable def V35_0 : (Int × Unit × Int × Int × (Int × (Int × Unit)) × Unit) → Option ((Int × Unit × Int × Int × (Int × (Int × Unit)) × Unit) ⊕ (Int × Unit × Int × (Int × (Int × Unit)) × Unit)) := fun x => R35_0  (fun _ => (0, (), 0, (0, (0, ())), ())) (fun _ => false) x.1 x.2.1 x.2.2.1 x.2.2.2.1 x.2.2.2.2.1
noncomputable def W35_0 : (Int × Unit × Int × Int × (Int × (Int × Unit)) × Unit) → (Int × Unit × Int × (Int × (Int × Unit)) × Unit) := whV (hd := hd35_0) (ys := ys35_0) V35_0
noncomputable def Q35_0 : (Int × Unit × Int × Int × (Int × (Int × Unit)) × Unit) → Bool := whK (hd := hd35_0) (ys := ys35_0) V35_0
noncomputable def C35 : Cx := CxL Try.Θ kn35 (lOf [(0, orc 22 25 0 hd35_0 ys35_0 W35_0 Q35_0)])
theorem CxOK35 : CxOK Try.prog C35 := ⟨Try.tabOK, knOK35, by kernel_rfl⟩
theorem l35_0 : Lone Try.prog C35 0 (.loop (loopB 0 (bodyF Try.f35))) (orc 22 25 0 hd35_0 ys35_0 W35_0 Q35_0) :=
  Lone.of CxOK35 (Lall.LOK rfl (by kernel_rfl) (Lall.skip (by kernel_rfl) trivial)) (by kernel_rfl) (fun x => (r35_0  W35_0 Q35_0 x.1 x.2.1 x.2.2.1 x.2.2.2.1 x.2.2.2.2.1).trans (by rfl))
theorem LOK35 : LOK Try.prog C35 0 (bodyF Try.f35) := (Lall.LOK rfl (by kernel_rfl) (Lall.cons (by kernel_rfl) l35_0 trivial))
noncomputable def E35 : (Int × Int × Unit) → Option (Int × (Int × Unit)) := fun x => S35  W35_0 Q35_0 x.1 x.2.1
noncomputable def F35 : (Int × Int × Unit) → (Int × (Int × Unit)) := fun x => (E35 x).getD (dflt (.pair (.int .u64) (.pair (.int .u64) .unit)))
noncomputable def G35 : (Int × Int × Unit) → Bool := fun x => (E35 x).isSome
theorem p35 : ∀ x, G35 x = true → PureOK Try.prog 35 (mkA [(.int .u64), (.int .u64)] x) ⟨(.pair (.int .u64) (.pair (.int .u64) .unit)), F35 x⟩ :=
  PureOK.ofS (ts := [(.int .u64), (.int .u64)]) (T := (.pair (.int .u64) (.pair (.int .u64) .unit))) (S := E35) CxOK35 Try.func35 (LOK.fn LOK35) (fun x => t35  W35_0 Q35_0 x.1 x.2.1)
noncomputable def kn34 : Kn := kOf []
theorem knOK34 : KOK Try.prog kn34 := KOK.nil
noncomputable def C34 : Cx := CxL Try.Θ kn34 (lOf [])
theorem CxOK34 : CxOK Try.prog C34 := ⟨Try.tabOK, knOK34, by kernel_rfl⟩
theorem LOK34 : LOK Try.prog C34 0 (bodyF Try.f34) := (Lall.LOK rfl (by kernel_rfl) trivial)
noncomputable def E34 : ((Int × (Int × Unit)) × (Int × (Int × Unit)) × Unit) → Option ((Int × (Int × Unit)) × (Bool × Unit)) := fun x => S34   x.1 x.2.1
noncomputable def F34 : ((Int × (Int × Unit)) × (Int × (Int × Unit)) × Unit) → ((Int × (Int × Unit)) × (Bool × Unit)) := fun x => (E34 x).getD (dflt (.tup (.pair (.int .u64) (.pair (.int .u64) .unit)) (.tup .bool .tnil)))
noncomputable def G34 : ((Int × (Int × Unit)) × (Int × (Int × Unit)) × Unit) → Bool := fun x => (E34 x).isSome
theorem p34 : ∀ x, G34 x = true → PureOK Try.prog 34 (mkA [(.pair (.int .u64) (.pair (.int .u64) .unit)), (.pair (.int .u64) (.pair (.int .u64) .unit))] x) ⟨(.tup (.pair (.int .u64) (.pair (.int .u64) .unit)) (.tup .bool .tnil)), F34 x⟩ :=
  PureOK.ofS (ts := [(.pair (.int .u64) (.pair (.int .u64) .unit)), (.pair (.int .u64) (.pair (.int .u64) .unit))]) (T := (.tup (.pair (.int .u64) (.pair (.int .u64) .unit)) (.tup .bool .tnil))) (S := E34) CxOK34 Try.func34 (LOK.fn LOK34) (fun x => t34   x.1 x.2.1)
noncomputable def kn14 : Kn := kOf [(33, sm [(.pair (.int .u64) (.pair (.int .u64) .unit))] .bool F33 G33), (34, sm [(.pair (.int .u64) (.pair (.int .u64) .unit)), (.pair (.int .u64) (.pair (.int .u64) .unit))] (.tup (.pair (.int .u64) (.pair (.int .u64) .unit)) (.tup .bool .tnil)) F34 G34), (35, sm [(.int .u64), (.int .u64)] (.pair (.int .u64) (.pair (.int .u64) .unit)) F35 G35)]
theorem knOK14 : KOK Try.prog kn14 := (KOK.cons Try.call33 (SmOK.sm p33) (KOK.cons Try.call34 (SmOK.sm p34) (KOK.cons Try.call35 (SmOK.sm p35) KOK.nil)))
noncomputable def V14_0 : (Unit × Unit × Int × ((Int × (Int × Unit)) × (Int × (Int × Unit))) × ((Int × (Int × Unit)) × (Int × (Int × Unit))) × Unit) → Option ((Unit × Unit × Int × ((Int × (Int × Unit)) × (Int × (Int × Unit))) × ((Int × (Int × Unit)) × (Int × (Int × Unit))) × Unit) ⊕ ((Unit × Unit × ((Int × (Int × Unit)) × (Int × (Int × Unit))) × ((Int × (Int × Unit)) × (Int × (Int × Unit))) × Unit) ⊕ (Unit × Bool × ((Int × (Int × Unit)) × (Int × (Int × Unit))) × Unit))) := fun x => R14_0 F33 G33 F34 G34 F35 G35 (fun _ => (Sum.inl ((), (), ((0, (0, ())), (0, (0, ()))), ((0, (0, ())), (0, (0, ()))), ()))) (fun _ => false) x.1 x.2.1 x.2.2.1 x.2.2.2.1 x.2.2.2.2.1
noncomputable def W14_0 : (Unit × Unit × Int × ((Int × (Int × Unit)) × (Int × (Int × Unit))) × ((Int × (Int × Unit)) × (Int × (Int × Unit))) × Unit) → ((Unit × Unit × ((Int × (Int × Unit)) × (Int × (Int × Unit))) × ((Int × (Int × Unit)) × (Int × (Int × Unit))) × Unit) ⊕ (Unit × Bool × ((Int × (Int × Unit)) × (Int × (Int × Unit))) × Unit)) := whV (hd := hd14_0) (ys := ys14_0) V14_0
noncomputable def Q14_0 : (Unit × Unit × Int × ((Int × (Int × Unit)) × (Int × (Int × Unit))) × ((Int × (Int × Unit)) × (Int × (Int × Unit))) × Unit) → Bool := whK (hd := hd14_0) (ys := ys14_0) V14_0
noncomputable def C14 : Cx := CxL Try.Θ kn14 (lOf [(0, orc 57 26 0 hd14_0 ys14_0 W14_0 Q14_0)])
theorem CxOK14 : CxOK Try.prog C14 := ⟨Try.tabOK, knOK14, by kernel_rfl⟩
theorem l14_0 : Lone Try.prog C14 0 (.loop (loopB 0 (bodyF Try.f14))) (orc 57 26 0 hd14_0 ys14_0 W14_0 Q14_0) :=
  Lone.of CxOK14 (Lall.LOK rfl (by kernel_rfl) (Lall.skip (by kernel_rfl) trivial)) (by kernel_rfl) (fun x => (r14_0 F33 G33 F34 G34 F35 G35 W14_0 Q14_0 x.1 x.2.1 x.2.2.1 x.2.2.2.1 x.2.2.2.2.1).trans (by rfl))
theorem LOK14 : LOK Try.prog C14 0 (bodyF Try.f14) := (Lall.LOK rfl (by kernel_rfl) (Lall.cons (by kernel_rfl) l14_0 trivial))
noncomputable def E14 : (((Int × (Int × Unit)) × (Int × (Int × Unit))) × Unit) → Option (((Int × (Int × Unit)) × (Int × (Int × Unit))) × (Bool × Unit)) := fun x => S14 F33 G33 F34 G34 F35 G35 W14_0 Q14_0 x.1
noncomputable def F14 : (((Int × (Int × Unit)) × (Int × (Int × Unit))) × Unit) → (((Int × (Int × Unit)) × (Int × (Int × Unit))) × (Bool × Unit)) := fun x => (E14 x).getD (dflt (.tup (.pair (.pair (.int .u64) (.pair (.int .u64) .unit)) (.pair (.int .u64) (.pair (.int .u64) .unit))) (.tup .bool .tnil)))
noncomputable def G14 : (((Int × (Int × Unit)) × (Int × (Int × Unit))) × Unit) → Bool := fun x => (E14 x).isSome
theorem p14 : ∀ x, G14 x = true → PureOK Try.prog 14 (mkA [(.pair (.pair (.int .u64) (.pair (.int .u64) .unit)) (.pair (.int .u64) (.pair (.int .u64) .unit)))] x) ⟨(.tup (.pair (.pair (.int .u64) (.pair (.int .u64) .unit)) (.pair (.int .u64) (.pair (.int .u64) .unit))) (.tup .bool .tnil)), F14 x⟩ :=
  PureOK.ofS (ts := [(.pair (.pair (.int .u64) (.pair (.int .u64) .unit)) (.pair (.int .u64) (.pair (.int .u64) .unit)))]) (T := (.tup (.pair (.pair (.int .u64) (.pair (.int .u64) .unit)) (.pair (.int .u64) (.pair (.int .u64) .unit))) (.tup .bool .tnil))) (S := E14) CxOK14 Try.func14 (LOK.fn LOK14) (fun x => t14 F33 G33 F34 G34 F35 G35 W14_0 Q14_0 x.1)
noncomputable def kn18 : Kn := kOf [(14, sm [(.pair (.pair (.int .u64) (.pair (.int .u64) .unit)) (.pair (.int .u64) (.pair (.int .u64) .unit)))] (.tup (.pair (.pair (.int .u64) (.pair (.int .u64) .unit)) (.pair (.int .u64) (.pair (.int .u64) .unit))) (.tup .bool .tnil)) F14 G14)]
theorem knOK18 : KOK Try.prog kn18 := (KOK.cons Try.call14 (SmOK.sm p14) KOK.nil)
noncomputable def C18 : Cx := CxL Try.Θ kn18 (lOf [])
theorem CxOK18 : CxOK Try.prog C18 := ⟨Try.tabOK, knOK18, by kernel_rfl⟩
theorem LOK18 : LOK Try.prog C18 0 (bodyF Try.f18) := (Lall.LOK rfl (by kernel_rfl) trivial)
noncomputable def E18 : (((Int × (Int × Unit)) × (Int × (Int × Unit))) × Unit) → Option Bool := fun x => S18 F14 G14  x.1
noncomputable def F18 : (((Int × (Int × Unit)) × (Int × (Int × Unit))) × Unit) → Bool := fun x => (E18 x).getD (dflt .bool)
noncomputable def G18 : (((Int × (Int × Unit)) × (Int × (Int × Unit))) × Unit) → Bool := fun x => (E18 x).isSome
theorem p18 : ∀ x, G18 x = true → PureOK Try.prog 18 (mkA [(.pair (.pair (.int .u64) (.pair (.int .u64) .unit)) (.pair (.int .u64) (.pair (.int .u64) .unit)))] x) ⟨.bool, F18 x⟩ :=
  PureOK.ofS (ts := [(.pair (.pair (.int .u64) (.pair (.int .u64) .unit)) (.pair (.int .u64) (.pair (.int .u64) .unit)))]) (T := .bool) (S := E18) CxOK18 Try.func18 (LOK.fn LOK18) (fun x => t18 F14 G14  x.1)
noncomputable def kn24 : Kn := kOf []
theorem knOK24 : KOK Try.prog kn24 := KOK.nil
noncomputable def C24 : Cx := CxL Try.Θ kn24 (lOf [])
theorem CxOK24 : CxOK Try.prog C24 := ⟨Try.tabOK, knOK24, by kernel_rfl⟩
theorem LOK24 : LOK Try.prog C24 0 (bodyF Try.f24) := (Lall.LOK rfl (by kernel_rfl) trivial)
noncomputable def E24 : (Int × Unit) → Option ((Int × (Int × Unit)) × (Int × (Int × Unit))) := fun x => S24   x.1
noncomputable def F24 : (Int × Unit) → ((Int × (Int × Unit)) × (Int × (Int × Unit))) := fun x => (E24 x).getD (dflt (.pair (.pair (.int .u64) (.pair (.int .u64) .unit)) (.pair (.int .u64) (.pair (.int .u64) .unit))))
noncomputable def G24 : (Int × Unit) → Bool := fun x => (E24 x).isSome
theorem p24 : ∀ x, G24 x = true → PureOK Try.prog 24 (mkA [(.int .u64)] x) ⟨(.pair (.pair (.int .u64) (.pair (.int .u64) .unit)) (.pair (.int .u64) (.pair (.int .u64) .unit))), F24 x⟩ :=
  PureOK.ofS (ts := [(.int .u64)]) (T := (.pair (.pair (.int .u64) (.pair (.int .u64) .unit)) (.pair (.int .u64) (.pair (.int .u64) .unit)))) (S := E24) CxOK24 Try.func24 (LOK.fn LOK24) (fun x => t24   x.1)
noncomputable def kn7 : Kn := kOf [(14, sm [(.pair (.pair (.int .u64) (.pair (.int .u64) .unit)) (.pair (.int .u64) (.pair (.int .u64) .unit)))] (.tup (.pair (.pair (.int .u64) (.pair (.int .u64) .unit)) (.pair (.int .u64) (.pair (.int .u64) .unit))) (.tup .bool .tnil)) F14 G14), (18, sm [(.pair (.pair (.int .u64) (.pair (.int .u64) .unit)) (.pair (.int .u64) (.pair (.int .u64) .unit)))] .bool F18 G18), (24, sm [(.int .u64)] (.pair (.pair (.int .u64) (.pair (.int .u64) .unit)) (.pair (.int .u64) (.pair (.int .u64) .unit))) F24 G24)]
theorem knOK7 : KOK Try.prog kn7 := (KOK.cons Try.call14 (SmOK.sm p14) (KOK.cons Try.call18 (SmOK.sm p18) (KOK.cons Try.call24 (SmOK.sm p24) KOK.nil)))
noncomputable def C7 : Cx := CxL Try.Θ kn7 (lOf [])
theorem CxOK7 : CxOK Try.prog C7 := ⟨Try.tabOK, knOK7, by kernel_rfl⟩
theorem LOK7 : LOK Try.prog C7 0 (bodyF Try.f7) := (Lall.LOK rfl (by kernel_rfl) trivial)
noncomputable def E7 : (((Int × (Int × Unit)) × (Int × (Int × Unit))) × Unit) → Option ((Int × (Int × Unit)) × (Int × (Int × Unit))) := fun x => S7 F14 G14 F18 G18 F24 G24  x.1
noncomputable def F7 : (((Int × (Int × Unit)) × (Int × (Int × Unit))) × Unit) → ((Int × (Int × Unit)) × (Int × (Int × Unit))) := fun x => (E7 x).getD (dflt (.pair (.pair (.int .u64) (.pair (.int .u64) .unit)) (.pair (.int .u64) (.pair (.int .u64) .unit))))
noncomputable def G7 : (((Int × (Int × Unit)) × (Int × (Int × Unit))) × Unit) → Bool := fun x => (E7 x).isSome
theorem p7 : ∀ x, G7 x = true → PureOK Try.prog 7 (mkA [(.pair (.pair (.int .u64) (.pair (.int .u64) .unit)) (.pair (.int .u64) (.pair (.int .u64) .unit)))] x) ⟨(.pair (.pair (.int .u64) (.pair (.int .u64) .unit)) (.pair (.int .u64) (.pair (.int .u64) .unit))), F7 x⟩ :=
  PureOK.ofS (ts := [(.pair (.pair (.int .u64) (.pair (.int .u64) .unit)) (.pair (.int .u64) (.pair (.int .u64) .unit)))]) (T := (.pair (.pair (.int .u64) (.pair (.int .u64) .unit)) (.pair (.int .u64) (.pair (.int .u64) .unit)))) (S := E7) CxOK7 Try.func7 (LOK.fn LOK7) (fun x => t7 F14 G14 F18 G18 F24 G24  x.1)
noncomputable def kn15 : Kn := kOf []
theorem knOK15 : KOK Try.prog kn15 := KOK.nil
noncomputable def C15 : Cx := CxL Try.Θ kn15 (lOf [])
theorem CxOK15 : CxOK Try.prog C15 := ⟨Try.tabOK, knOK15, by kernel_rfl⟩
theorem LOK15 : LOK Try.prog C15 0 (bodyF Try.f15) := (Lall.LOK rfl (by kernel_rfl) trivial)
noncomputable def E15 : (((Int × (Int × Unit)) × (Int × (Int × Unit))) × Unit) → Option (Int × (Bool × Unit)) := fun x => S15   x.1
noncomputable def F15 : (((Int × (Int × Unit)) × (Int × (Int × Unit))) × Unit) → (Int × (Bool × Unit)) := fun x => (E15 x).getD (dflt (.tup (.int .u64) (.tup .bool .tnil)))
noncomputable def G15 : (((Int × (Int × Unit)) × (Int × (Int × Unit))) × Unit) → Bool := fun x => (E15 x).isSome
theorem p15 : ∀ x, G15 x = true → PureOK Try.prog 15 (mkA [(.pair (.pair (.int .u64) (.pair (.int .u64) .unit)) (.pair (.int .u64) (.pair (.int .u64) .unit)))] x) ⟨(.tup (.int .u64) (.tup .bool .tnil)), F15 x⟩ :=
  PureOK.ofS (ts := [(.pair (.pair (.int .u64) (.pair (.int .u64) .unit)) (.pair (.int .u64) (.pair (.int .u64) .unit)))]) (T := (.tup (.int .u64) (.tup .bool .tnil))) (S := E15) CxOK15 Try.func15 (LOK.fn LOK15) (fun x => t15   x.1)
noncomputable def kn16 : Kn := kOf []
theorem knOK16 : KOK Try.prog kn16 := KOK.nil
noncomputable def C16 : Cx := CxL Try.Θ kn16 (lOf [])
theorem CxOK16 : CxOK Try.prog C16 := ⟨Try.tabOK, knOK16, by kernel_rfl⟩
theorem LOK16 : LOK Try.prog C16 0 (bodyF Try.f16) := (Lall.LOK rfl (by kernel_rfl) trivial)
noncomputable def E16 : (((Int × (Int × Unit)) × (Int × (Int × Unit))) × Unit) → Option (Int × (Bool × Unit)) := fun x => S16   x.1
noncomputable def F16 : (((Int × (Int × Unit)) × (Int × (Int × Unit))) × Unit) → (Int × (Bool × Unit)) := fun x => (E16 x).getD (dflt (.tup (.int .u64) (.tup .bool .tnil)))
noncomputable def G16 : (((Int × (Int × Unit)) × (Int × (Int × Unit))) × Unit) → Bool := fun x => (E16 x).isSome
theorem p16 : ∀ x, G16 x = true → PureOK Try.prog 16 (mkA [(.pair (.pair (.int .u64) (.pair (.int .u64) .unit)) (.pair (.int .u64) (.pair (.int .u64) .unit)))] x) ⟨(.tup (.int .u64) (.tup .bool .tnil)), F16 x⟩ :=
  PureOK.ofS (ts := [(.pair (.pair (.int .u64) (.pair (.int .u64) .unit)) (.pair (.int .u64) (.pair (.int .u64) .unit)))]) (T := (.tup (.int .u64) (.tup .bool .tnil))) (S := E16) CxOK16 Try.func16 (LOK.fn LOK16) (fun x => t16   x.1)
noncomputable def kn17 : Kn := kOf [(13, sm [(.pair (.pair (.int .u64) (.pair (.int .u64) .unit)) (.pair (.int .u64) (.pair (.int .u64) .unit)))] (.tup (.pair (.pair (.int .u64) (.pair (.int .u64) .unit)) (.pair (.int .u64) (.pair (.int .u64) .unit))) (.tup .bool .tnil)) F13 G13)]
theorem knOK17 : KOK Try.prog kn17 := (KOK.cons Try.call13 (SmOK.sm p13) KOK.nil)
noncomputable def C17 : Cx := CxL Try.Θ kn17 (lOf [])
theorem CxOK17 : CxOK Try.prog C17 := ⟨Try.tabOK, knOK17, by kernel_rfl⟩
theorem LOK17 : LOK Try.prog C17 0 (bodyF Try.f17) := (Lall.LOK rfl (by kernel_rfl) trivial)
noncomputable def E17 : (((Int × (Int × Unit)) × (Int × (Int × Unit))) × Unit) → Option Bool := fun x => S17 F13 G13  x.1
noncomputable def F17 : (((Int × (Int × Unit)) × (Int × (Int × Unit))) × Unit) → Bool := fun x => (E17 x).getD (dflt .bool)
noncomputable def G17 : (((Int × (Int × Unit)) × (Int × (Int × Unit))) × Unit) → Bool := fun x => (E17 x).isSome
theorem p17 : ∀ x, G17 x = true → PureOK Try.prog 17 (mkA [(.pair (.pair (.int .u64) (.pair (.int .u64) .unit)) (.pair (.int .u64) (.pair (.int .u64) .unit)))] x) ⟨.bool, F17 x⟩ :=
  PureOK.ofS (ts := [(.pair (.pair (.int .u64) (.pair (.int .u64) .unit)) (.pair (.int .u64) (.pair (.int .u64) .unit)))]) (T := .bool) (S := E17) CxOK17 Try.func17 (LOK.fn LOK17) (fun x => t17 F13 G13  x.1)
noncomputable def kn27 : Kn := kOf []
theorem knOK27 : KOK Try.prog kn27 := KOK.nil
noncomputable def C27 : Cx := CxL Try.Θ kn27 (lOf [])
theorem CxOK27 : CxOK Try.prog C27 := ⟨Try.tabOK, knOK27, by kernel_rfl⟩
theorem LOK27 : LOK Try.prog C27 0 (bodyF Try.f27) := (Lall.LOK rfl (by kernel_rfl) trivial)
noncomputable def E27 : ((Int × (Int × Unit)) × Int × Unit) → Option (Int × (Int × Unit)) := fun x => S27   x.1 x.2.1
noncomputable def F27 : ((Int × (Int × Unit)) × Int × Unit) → (Int × (Int × Unit)) := fun x => (E27 x).getD (dflt (.pair (.int .u64) (.pair (.int .u64) .unit)))
noncomputable def G27 : ((Int × (Int × Unit)) × Int × Unit) → Bool := fun x => (E27 x).isSome
theorem p27 : ∀ x, G27 x = true → PureOK Try.prog 27 (mkA [(.pair (.int .u64) (.pair (.int .u64) .unit)), (.int .i64)] x) ⟨(.pair (.int .u64) (.pair (.int .u64) .unit)), F27 x⟩ :=
  PureOK.ofS (ts := [(.pair (.int .u64) (.pair (.int .u64) .unit)), (.int .i64)]) (T := (.pair (.int .u64) (.pair (.int .u64) .unit))) (S := E27) CxOK27 Try.func27 (LOK.fn LOK27) (fun x => t27   x.1 x.2.1)
noncomputable def kn26 : Kn := kOf [(13, sm [(.pair (.pair (.int .u64) (.pair (.int .u64) .unit)) (.pair (.int .u64) (.pair (.int .u64) .unit)))] (.tup (.pair (.pair (.int .u64) (.pair (.int .u64) .unit)) (.pair (.int .u64) (.pair (.int .u64) .unit))) (.tup .bool .tnil)) F13 G13)]
theorem knOK26 : KOK Try.prog kn26 := (KOK.cons Try.call13 (SmOK.sm p13) KOK.nil)
noncomputable def C26 : Cx := CxL Try.Θ kn26 (lOf [])
theorem CxOK26 : CxOK Try.prog C26 := ⟨Try.tabOK, knOK26, by kernel_rfl⟩
theorem LOK26 : LOK Try.prog C26 0 (bodyF Try.f26) := (Lall.LOK rfl (by kernel_rfl) trivial)
noncomputable def E26 : ((Int × (Int × Unit)) × Int × Int × Unit) → Option ((Int × (Int × Unit)) × (Int × (Int × Unit))) := fun x => S26 F13 G13  x.1 x.2.1 x.2.2.1
noncomputable def F26 : ((Int × (Int × Unit)) × Int × Int × Unit) → ((Int × (Int × Unit)) × (Int × (Int × Unit))) := fun x => (E26 x).getD (dflt (.pair (.pair (.int .u64) (.pair (.int .u64) .unit)) (.pair (.int .u64) (.pair (.int .u64) .unit))))
noncomputable def G26 : ((Int × (Int × Unit)) × Int × Int × Unit) → Bool := fun x => (E26 x).isSome
theorem p26 : ∀ x, G26 x = true → PureOK Try.prog 26 (mkA [(.pair (.int .u64) (.pair (.int .u64) .unit)), (.int .u64), (.int .u64)] x) ⟨(.pair (.pair (.int .u64) (.pair (.int .u64) .unit)) (.pair (.int .u64) (.pair (.int .u64) .unit))), F26 x⟩ :=
  PureOK.ofS (ts := [(.pair (.int .u64) (.pair (.int .u64) .unit)), (.int .u64), (.int .u64)]) (T := (.pair (.pair (.int .u64) (.pair (.int .u64) .unit)) (.pair (.int .u64) (.pair (.int .u64) .unit)))) (S := E26) CxOK26 Try.func26 (LOK.fn LOK26) (fun x => t26 F13 G13  x.1 x.2.1 x.2.2.1)
noncomputable def kn10 : Kn := kOf [(26, sm [(.pair (.int .u64) (.pair (.int .u64) .unit)), (.int .u64), (.int .u64)] (.pair (.pair (.int .u64) (.pair (.int .u64) .unit)) (.pair (.int .u64) (.pair (.int .u64) .unit))) F26 G26), (27, sm [(.pair (.int .u64) (.pair (.int .u64) .unit)), (.int .i64)] (.pair (.int .u64) (.pair (.int .u64) .unit)) F27 G27)]
theorem knOK10 : KOK Try.prog kn10 := (KOK.cons Try.call26 (SmOK.sm p26) (KOK.cons Try.call27 (SmOK.sm p27) KOK.nil))
noncomputable def C10 : Cx := CxL Try.Θ kn10 (lOf [])
theorem CxOK10 : CxOK Try.prog C10 := ⟨Try.tabOK, knOK10, by kernel_rfl⟩
theorem LOK10 : LOK Try.prog C10 0 (bodyF Try.f10) := (Lall.LOK rfl (by kernel_rfl) trivial)
noncomputable def E10 : (((Int × (Int × Unit)) × (Int × (Int × Unit))) × Int × Unit) → Option ((Int × (Int × Unit)) × (Int × (Int × Unit))) := fun x => S10 F26 G26 F27 G27  x.1 x.2.1
noncomputable def F10 : (((Int × (Int × Unit)) × (Int × (Int × Unit))) × Int × Unit) → ((Int × (Int × Unit)) × (Int × (Int × Unit))) := fun x => (E10 x).getD (dflt (.pair (.pair (.int .u64) (.pair (.int .u64) .unit)) (.pair (.int .u64) (.pair (.int .u64) .unit))))
noncomputable def G10 : (((Int × (Int × Unit)) × (Int × (Int × Unit))) × Int × Unit) → Bool := fun x => (E10 x).isSome
theorem p10 : ∀ x, G10 x = true → PureOK Try.prog 10 (mkA [(.pair (.pair (.int .u64) (.pair (.int .u64) .unit)) (.pair (.int .u64) (.pair (.int .u64) .unit))), (.int .i64)] x) ⟨(.pair (.pair (.int .u64) (.pair (.int .u64) .unit)) (.pair (.int .u64) (.pair (.int .u64) .unit))), F10 x⟩ :=
  PureOK.ofS (ts := [(.pair (.pair (.int .u64) (.pair (.int .u64) .unit)) (.pair (.int .u64) (.pair (.int .u64) .unit))), (.int .i64)]) (T := (.pair (.pair (.int .u64) (.pair (.int .u64) .unit)) (.pair (.int .u64) (.pair (.int .u64) .unit)))) (S := E10) CxOK10 Try.func10 (LOK.fn LOK10) (fun x => t10 F26 G26 F27 G27  x.1 x.2.1)
noncomputable def kn28 : Kn := kOf []
theorem knOK28 : KOK Try.prog kn28 := KOK.nil
noncomputable def C28 : Cx := CxL Try.Θ kn28 (lOf [])
theorem CxOK28 : CxOK Try.prog C28 := ⟨Try.tabOK, knOK28, by kernel_rfl⟩
theorem LOK28 : LOK Try.prog C28 0 (bodyF Try.f28) := (Lall.LOK rfl (by kernel_rfl) trivial)
noncomputable def E28 : ((Int × (Int × Unit)) × Int × Unit) → Option (Int × (Int × Unit)) := fun x => S28   x.1 x.2.1
noncomputable def F28 : ((Int × (Int × Unit)) × Int × Unit) → (Int × (Int × Unit)) := fun x => (E28 x).getD (dflt (.pair (.int .u64) (.pair (.int .u64) .unit)))
noncomputable def G28 : ((Int × (Int × Unit)) × Int × Unit) → Bool := fun x => (E28 x).isSome
theorem p28 : ∀ x, G28 x = true → PureOK Try.prog 28 (mkA [(.pair (.int .u64) (.pair (.int .u64) .unit)), (.int .i64)] x) ⟨(.pair (.int .u64) (.pair (.int .u64) .unit)), F28 x⟩ :=
  PureOK.ofS (ts := [(.pair (.int .u64) (.pair (.int .u64) .unit)), (.int .i64)]) (T := (.pair (.int .u64) (.pair (.int .u64) .unit))) (S := E28) CxOK28 Try.func28 (LOK.fn LOK28) (fun x => t28   x.1 x.2.1)
noncomputable def kn29 : Kn := kOf [(14, sm [(.pair (.pair (.int .u64) (.pair (.int .u64) .unit)) (.pair (.int .u64) (.pair (.int .u64) .unit)))] (.tup (.pair (.pair (.int .u64) (.pair (.int .u64) .unit)) (.pair (.int .u64) (.pair (.int .u64) .unit))) (.tup .bool .tnil)) F14 G14)]
theorem knOK29 : KOK Try.prog kn29 := (KOK.cons Try.call14 (SmOK.sm p14) KOK.nil)
noncomputable def C29 : Cx := CxL Try.Θ kn29 (lOf [])
theorem CxOK29 : CxOK Try.prog C29 := ⟨Try.tabOK, knOK29, by kernel_rfl⟩
theorem LOK29 : LOK Try.prog C29 0 (bodyF Try.f29) := (Lall.LOK rfl (by kernel_rfl) trivial)
noncomputable def E29 : (((Int × (Int × Unit)) × (Int × (Int × Unit))) × Unit) → Option ((Int × (Int × Unit)) × (Int × (Int × Unit))) := fun x => S29 F14 G14  x.1
noncomputable def F29 : (((Int × (Int × Unit)) × (Int × (Int × Unit))) × Unit) → ((Int × (Int × Unit)) × (Int × (Int × Unit))) := fun x => (E29 x).getD (dflt (.pair (.pair (.int .u64) (.pair (.int .u64) .unit)) (.pair (.int .u64) (.pair (.int .u64) .unit))))
noncomputable def G29 : (((Int × (Int × Unit)) × (Int × (Int × Unit))) × Unit) → Bool := fun x => (E29 x).isSome
theorem p29 : ∀ x, G29 x = true → PureOK Try.prog 29 (mkA [(.pair (.pair (.int .u64) (.pair (.int .u64) .unit)) (.pair (.int .u64) (.pair (.int .u64) .unit)))] x) ⟨(.pair (.pair (.int .u64) (.pair (.int .u64) .unit)) (.pair (.int .u64) (.pair (.int .u64) .unit))), F29 x⟩ :=
  PureOK.ofS (ts := [(.pair (.pair (.int .u64) (.pair (.int .u64) .unit)) (.pair (.int .u64) (.pair (.int .u64) .unit)))]) (T := (.pair (.pair (.int .u64) (.pair (.int .u64) .unit)) (.pair (.int .u64) (.pair (.int .u64) .unit)))) (S := E29) CxOK29 Try.func29 (LOK.fn LOK29) (fun x => t29 F14 G14  x.1)
noncomputable def kn11 : Kn := kOf [(28, sm [(.pair (.int .u64) (.pair (.int .u64) .unit)), (.int .i64)] (.pair (.int .u64) (.pair (.int .u64) .unit)) F28 G28), (29, sm [(.pair (.pair (.int .u64) (.pair (.int .u64) .unit)) (.pair (.int .u64) (.pair (.int .u64) .unit)))] (.pair (.pair (.int .u64) (.pair (.int .u64) .unit)) (.pair (.int .u64) (.pair (.int .u64) .unit))) F29 G29)]
theorem knOK11 : KOK Try.prog kn11 := (KOK.cons Try.call28 (SmOK.sm p28) (KOK.cons Try.call29 (SmOK.sm p29) KOK.nil))
noncomputable def C11 : Cx := CxL Try.Θ kn11 (lOf [])
theorem CxOK11 : CxOK Try.prog C11 := ⟨Try.tabOK, knOK11, by kernel_rfl⟩
theorem LOK11 : LOK Try.prog C11 0 (bodyF Try.f11) := (Lall.LOK rfl (by kernel_rfl) trivial)
noncomputable def E11 : (((Int × (Int × Unit)) × (Int × (Int × Unit))) × Int × Unit) → Option ((Int × (Int × Unit)) × (Int × (Int × Unit))) := fun x => S11 F28 G28 F29 G29  x.1 x.2.1
noncomputable def F11 : (((Int × (Int × Unit)) × (Int × (Int × Unit))) × Int × Unit) → ((Int × (Int × Unit)) × (Int × (Int × Unit))) := fun x => (E11 x).getD (dflt (.pair (.pair (.int .u64) (.pair (.int .u64) .unit)) (.pair (.int .u64) (.pair (.int .u64) .unit))))
noncomputable def G11 : (((Int × (Int × Unit)) × (Int × (Int × Unit))) × Int × Unit) → Bool := fun x => (E11 x).isSome
theorem p11 : ∀ x, G11 x = true → PureOK Try.prog 11 (mkA [(.pair (.pair (.int .u64) (.pair (.int .u64) .unit)) (.pair (.int .u64) (.pair (.int .u64) .unit))), (.int .i64)] x) ⟨(.pair (.pair (.int .u64) (.pair (.int .u64) .unit)) (.pair (.int .u64) (.pair (.int .u64) .unit))), F11 x⟩ :=
  PureOK.ofS (ts := [(.pair (.pair (.int .u64) (.pair (.int .u64) .unit)) (.pair (.int .u64) (.pair (.int .u64) .unit))), (.int .i64)]) (T := (.pair (.pair (.int .u64) (.pair (.int .u64) .unit)) (.pair (.int .u64) (.pair (.int .u64) .unit)))) (S := E11) CxOK11 Try.func11 (LOK.fn LOK11) (fun x => t11 F28 G28 F29 G29  x.1 x.2.1)
noncomputable def kn5 : Kn := kOf [(7, sm [(.pair (.pair (.int .u64) (.pair (.int .u64) .unit)) (.pair (.int .u64) (.pair (.int .u64) .unit)))] (.pair (.pair (.int .u64) (.pair (.int .u64) .unit)) (.pair (.int .u64) (.pair (.int .u64) .unit))) F7 G7), (10, sm [(.pair (.pair (.int .u64) (.pair (.int .u64) .unit)) (.pair (.int .u64) (.pair (.int .u64) .unit))), (.int .i64)] (.pair (.pair (.int .u64) (.pair (.int .u64) .unit)) (.pair (.int .u64) (.pair (.int .u64) .unit))) F10 G10), (11, sm [(.pair (.pair (.int .u64) (.pair (.int .u64) .unit)) (.pair (.int .u64) (.pair (.int .u64) .unit))), (.int .i64)] (.pair (.pair (.int .u64) (.pair (.int .u64) .unit)) (.pair (.int .u64) (.pair (.int .u64) .unit))) F11 G11), (12, sm [] .bool F12 G12), (13, sm [(.pair (.pair (.int .u64) (.pair (.int .u64) .unit)) (.pair (.int .u64) (.pair (.int .u64) .unit)))] (.tup (.pair (.pair (.int .u64) (.pair (.int .u64) .unit)) (.pair (.int .u64) (.pair (.int .u64) .unit))) (.tup .bool .tnil)) F13 G13), (14, sm [(.pair (.pair (.int .u64) (.pair (.int .u64) .unit)) (.pair (.int .u64) (.pair (.int .u64) .unit)))] (.tup (.pair (.pair (.int .u64) (.pair (.int .u64) .unit)) (.pair (.int .u64) (.pair (.int .u64) .unit))) (.tup .bool .tnil)) F14 G14), (15, sm [(.pair (.pair (.int .u64) (.pair (.int .u64) .unit)) (.pair (.int .u64) (.pair (.int .u64) .unit)))] (.tup (.int .u64) (.tup .bool .tnil)) F15 G15), (16, sm [(.pair (.pair (.int .u64) (.pair (.int .u64) .unit)) (.pair (.int .u64) (.pair (.int .u64) .unit)))] (.tup (.int .u64) (.tup .bool .tnil)) F16 G16), (17, sm [(.pair (.pair (.int .u64) (.pair (.int .u64) .unit)) (.pair (.int .u64) (.pair (.int .u64) .unit)))] .bool F17 G17), (18, sm [(.pair (.pair (.int .u64) (.pair (.int .u64) .unit)) (.pair (.int .u64) (.pair (.int .u64) .unit)))] .bool F18 G18)]
theorem knOK5 : KOK Try.prog kn5 := (KOK.cons Try.call7 (SmOK.sm p7) (KOK.cons Try.call10 (SmOK.sm p10) (KOK.cons Try.call11 (SmOK.sm p11) (KOK.cons Try.call12 (SmOK.sm p12) (KOK.cons Try.call13 (SmOK.sm p13) (KOK.cons Try.call14 (SmOK.sm p14) (KOK.cons Try.call15 (SmOK.sm p15) (KOK.cons Try.call16 (SmOK.sm p16) (KOK.cons Try.call17 (SmOK.sm p17) (KOK.cons Try.call18 (SmOK.sm p18) KOK.nil))))))))))
noncomputable def C5 : Cx := CxL Try.Θ kn5 (lOf [])
theorem CxOK5 : CxOK Try.prog C5 := ⟨Try.tabOK, knOK5, by kernel_rfl⟩
theorem LOK5 : LOK Try.prog C5 0 (bodyF Try.f5) := (Lall.LOK rfl (by kernel_rfl) trivial)
noncomputable def E5 : (((Int × (Int × Unit)) × (Int × (Int × Unit))) × Int × Unit) → Option Bool := fun x => S5 F7 G7 F10 G10 F11 G11 F12 G12 F13 G13 F14 G14 F15 G15 F16 G16 F17 G17 F18 G18  x.1 x.2.1
noncomputable def F5 : (((Int × (Int × Unit)) × (Int × (Int × Unit))) × Int × Unit) → Bool := fun x => (E5 x).getD (dflt .bool)
noncomputable def G5 : (((Int × (Int × Unit)) × (Int × (Int × Unit))) × Int × Unit) → Bool := fun x => (E5 x).isSome
theorem p5 : ∀ x, G5 x = true → PureOK Try.prog 5 (mkA [(.pair (.pair (.int .u64) (.pair (.int .u64) .unit)) (.pair (.int .u64) (.pair (.int .u64) .unit))), (.int .i64)] x) ⟨.bool, F5 x⟩ :=
  PureOK.ofS (ts := [(.pair (.pair (.int .u64) (.pair (.int .u64) .unit)) (.pair (.int .u64) (.pair (.int .u64) .unit))), (.int .i64)]) (T := .bool) (S := E5) CxOK5 Try.func5 (LOK.fn LOK5) (fun x => t5 F7 G7 F10 G10 F11 G11 F12 G12 F13 G13 F14 G14 F15 G15 F16 G16 F17 G17 F18 G18  x.1 x.2.1)
noncomputable def kn25 : Kn := kOf []
theorem knOK25 : KOK Try.prog kn25 := KOK.nil
noncomputable def C25 : Cx := CxL Try.Θ kn25 (lOf [])
theorem CxOK25 : CxOK Try.prog C25 := ⟨Try.tabOK, knOK25, by kernel_rfl⟩
theorem LOK25 : LOK Try.prog C25 0 (bodyF Try.f25) := (Lall.LOK rfl (by kernel_rfl) trivial)
noncomputable def E25 : ((Int × (Int × Unit)) × Int × Unit) → Option Bool := fun x => S25   x.1 x.2.1
noncomputable def F25 : ((Int × (Int × Unit)) × Int × Unit) → Bool := fun x => (E25 x).getD (dflt .bool)
noncomputable def G25 : ((Int × (Int × Unit)) × Int × Unit) → Bool := fun x => (E25 x).isSome
theorem p25 : ∀ x, G25 x = true → PureOK Try.prog 25 (mkA [(.pair (.int .u64) (.pair (.int .u64) .unit)), (.int .u64)] x) ⟨.bool, F25 x⟩ :=
  PureOK.ofS (ts := [(.pair (.int .u64) (.pair (.int .u64) .unit)), (.int .u64)]) (T := .bool) (S := E25) CxOK25 Try.func25 (LOK.fn LOK25) (fun x => t25   x.1 x.2.1)
noncomputable def kn9 : Kn := kOf [(25, sm [(.pair (.int .u64) (.pair (.int .u64) .unit)), (.int .u64)] .bool F25 G25)]
theorem knOK9 : KOK Try.prog kn9 := (KOK.cons Try.call25 (SmOK.sm p25) KOK.nil)
noncomputable def C9 : Cx := CxL Try.Θ kn9 (lOf [])
theorem CxOK9 : CxOK Try.prog C9 := ⟨Try.tabOK, knOK9, by kernel_rfl⟩
theorem LOK9 : LOK Try.prog C9 0 (bodyF Try.f9) := (Lall.LOK rfl (by kernel_rfl) trivial)
noncomputable def E9 : (((Int × (Int × Unit)) × (Int × (Int × Unit))) × Int × Unit) → Option Bool := fun x => S9 F25 G25  x.1 x.2.1
noncomputable def F9 : (((Int × (Int × Unit)) × (Int × (Int × Unit))) × Int × Unit) → Bool := fun x => (E9 x).getD (dflt .bool)
noncomputable def G9 : (((Int × (Int × Unit)) × (Int × (Int × Unit))) × Int × Unit) → Bool := fun x => (E9 x).isSome
theorem p9 : ∀ x, G9 x = true → PureOK Try.prog 9 (mkA [(.pair (.pair (.int .u64) (.pair (.int .u64) .unit)) (.pair (.int .u64) (.pair (.int .u64) .unit))), (.int .u64)] x) ⟨.bool, F9 x⟩ :=
  PureOK.ofS (ts := [(.pair (.pair (.int .u64) (.pair (.int .u64) .unit)) (.pair (.int .u64) (.pair (.int .u64) .unit))), (.int .u64)]) (T := .bool) (S := E9) CxOK9 Try.func9 (LOK.fn LOK9) (fun x => t9 F25 G25  x.1 x.2.1)
noncomputable def kn36 : Kn := kOf []
theorem knOK36 : KOK Try.prog kn36 := KOK.nil
noncomputable def C36 : Cx := CxL Try.Θ kn36 (lOf [])
theorem CxOK36 : CxOK Try.prog C36 := ⟨Try.tabOK, knOK36, by kernel_rfl⟩
theorem LOK36 : LOK Try.prog C36 0 (bodyF Try.f36) := (Lall.LOK rfl (by kernel_rfl) trivial)
noncomputable def E36 : ((Int × (Int × Unit)) × Int × Unit) → Option Bool := fun x => S36   x.1 x.2.1
noncomputable def F36 : ((Int × (Int × Unit)) × Int × Unit) → Bool := fun x => (E36 x).getD (dflt .bool)
noncomputable def G36 : ((Int × (Int × Unit)) × Int × Unit) → Bool := fun x => (E36 x).isSome
theorem p36 : ∀ x, G36 x = true → PureOK Try.prog 36 (mkA [(.pair (.int .u64) (.pair (.int .u64) .unit)), (.int .u64)] x) ⟨.bool, F36 x⟩ :=
  PureOK.ofS (ts := [(.pair (.int .u64) (.pair (.int .u64) .unit)), (.int .u64)]) (T := .bool) (S := E36) CxOK36 Try.func36 (LOK.fn LOK36) (fun x => t36   x.1 x.2.1)
noncomputable def kn19 : Kn := kOf [(36, sm [(.pair (.int .u64) (.pair (.int .u64) .unit)), (.int .u64)] .bool F36 G36)]
theorem knOK19 : KOK Try.prog kn19 := (KOK.cons Try.call36 (SmOK.sm p36) KOK.nil)
noncomputable def C19 : Cx := CxL Try.Θ kn19 (lOf [])
theorem CxOK19 : CxOK Try.prog C19 := ⟨Try.tabOK, knOK19, by kernel_rfl⟩
theorem LOK19 : LOK Try.prog C19 0 (bodyF Try.f19) := (Lall.LOK rfl (by kernel_rfl) trivial)
noncomputable def E19 : (((Int × (Int × Unit)) × (Int × (Int × Unit))) × Int × Unit) → Option Bool := fun x => S19 F36 G36  x.1 x.2.1
noncomputable def F19 : (((Int × (Int × Unit)) × (Int × (Int × Unit))) × Int × Unit) → Bool := fun x => (E19 x).getD (dflt .bool)
noncomputable def G19 : (((Int × (Int × Unit)) × (Int × (Int × Unit))) × Int × Unit) → Bool := fun x => (E19 x).isSome
theorem p19 : ∀ x, G19 x = true → PureOK Try.prog 19 (mkA [(.pair (.pair (.int .u64) (.pair (.int .u64) .unit)) (.pair (.int .u64) (.pair (.int .u64) .unit))), (.int .u64)] x) ⟨.bool, F19 x⟩ :=
  PureOK.ofS (ts := [(.pair (.pair (.int .u64) (.pair (.int .u64) .unit)) (.pair (.int .u64) (.pair (.int .u64) .unit))), (.int .u64)]) (T := .bool) (S := E19) CxOK19 Try.func19 (LOK.fn LOK19) (fun x => t19 F36 G36  x.1 x.2.1)
noncomputable def kn37 : Kn := kOf [(25, sm [(.pair (.int .u64) (.pair (.int .u64) .unit)), (.int .u64)] .bool F25 G25)]
theorem knOK37 : KOK Try.prog kn37 := (KOK.cons Try.call25 (SmOK.sm p25) KOK.nil)
noncomputable def C37 : Cx := CxL Try.Θ kn37 (lOf [])
theorem CxOK37 : CxOK Try.prog C37 := ⟨Try.tabOK, knOK37, by kernel_rfl⟩
theorem LOK37 : LOK Try.prog C37 0 (bodyF Try.f37) := (Lall.LOK rfl (by kernel_rfl) trivial)
noncomputable def E37 : ((Int × (Int × Unit)) × (Int × (Int × Unit)) × Unit) → Option Bool := fun x => S37 F25 G25  x.1 x.2.1
noncomputable def F37 : ((Int × (Int × Unit)) × (Int × (Int × Unit)) × Unit) → Bool := fun x => (E37 x).getD (dflt .bool)
noncomputable def G37 : ((Int × (Int × Unit)) × (Int × (Int × Unit)) × Unit) → Bool := fun x => (E37 x).isSome
theorem p37 : ∀ x, G37 x = true → PureOK Try.prog 37 (mkA [(.pair (.int .u64) (.pair (.int .u64) .unit)), (.pair (.int .u64) (.pair (.int .u64) .unit))] x) ⟨.bool, F37 x⟩ :=
  PureOK.ofS (ts := [(.pair (.int .u64) (.pair (.int .u64) .unit)), (.pair (.int .u64) (.pair (.int .u64) .unit))]) (T := .bool) (S := E37) CxOK37 Try.func37 (LOK.fn LOK37) (fun x => t37 F25 G25  x.1 x.2.1)
noncomputable def kn20 : Kn := kOf [(37, sm [(.pair (.int .u64) (.pair (.int .u64) .unit)), (.pair (.int .u64) (.pair (.int .u64) .unit))] .bool F37 G37)]
theorem knOK20 : KOK Try.prog kn20 := (KOK.cons Try.call37 (SmOK.sm p37) KOK.nil)
noncomputable def C20 : Cx := CxL Try.Θ kn20 (lOf [])
theorem CxOK20 : CxOK Try.prog C20 := ⟨Try.tabOK, knOK20, by kernel_rfl⟩
theorem LOK20 : LOK Try.prog C20 0 (bodyF Try.f20) := (Lall.LOK rfl (by kernel_rfl) trivial)
noncomputable def E20 : (((Int × (Int × Unit)) × (Int × (Int × Unit))) × ((Int × (Int × Unit)) × (Int × (Int × Unit))) × Unit) → Option Bool := fun x => S20 F37 G37  x.1 x.2.1
noncomputable def F20 : (((Int × (Int × Unit)) × (Int × (Int × Unit))) × ((Int × (Int × Unit)) × (Int × (Int × Unit))) × Unit) → Bool := fun x => (E20 x).getD (dflt .bool)
noncomputable def G20 : (((Int × (Int × Unit)) × (Int × (Int × Unit))) × ((Int × (Int × Unit)) × (Int × (Int × Unit))) × Unit) → Bool := fun x => (E20 x).isSome
theorem p20 : ∀ x, G20 x = true → PureOK Try.prog 20 (mkA [(.pair (.pair (.int .u64) (.pair (.int .u64) .unit)) (.pair (.int .u64) (.pair (.int .u64) .unit))), (.pair (.pair (.int .u64) (.pair (.int .u64) .unit)) (.pair (.int .u64) (.pair (.int .u64) .unit)))] x) ⟨.bool, F20 x⟩ :=
  PureOK.ofS (ts := [(.pair (.pair (.int .u64) (.pair (.int .u64) .unit)) (.pair (.int .u64) (.pair (.int .u64) .unit))), (.pair (.pair (.int .u64) (.pair (.int .u64) .unit)) (.pair (.int .u64) (.pair (.int .u64) .unit)))]) (T := .bool) (S := E20) CxOK20 Try.func20 (LOK.fn LOK20) (fun x => t20 F37 G37  x.1 x.2.1)
noncomputable def kn38 : Kn := kOf []
theorem knOK38 : KOK Try.prog kn38 := KOK.nil
noncomputable def C38 : Cx := CxL Try.Θ kn38 (lOf [])
theorem CxOK38 : CxOK Try.prog C38 := ⟨Try.tabOK, knOK38, by kernel_rfl⟩
theorem LOK38 : LOK Try.prog C38 0 (bodyF Try.f38) := (Lall.LOK rfl (by kernel_rfl) trivial)
noncomputable def E38 : ((Int × (Int × Unit)) × (Int × (Int × Unit)) × Unit) → Option Bool := fun x => S38   x.1 x.2.1
noncomputable def F38 : ((Int × (Int × Unit)) × (Int × (Int × Unit)) × Unit) → Bool := fun x => (E38 x).getD (dflt .bool)
noncomputable def G38 : ((Int × (Int × Unit)) × (Int × (Int × Unit)) × Unit) → Bool := fun x => (E38 x).isSome
theorem p38 : ∀ x, G38 x = true → PureOK Try.prog 38 (mkA [(.pair (.int .u64) (.pair (.int .u64) .unit)), (.pair (.int .u64) (.pair (.int .u64) .unit))] x) ⟨.bool, F38 x⟩ :=
  PureOK.ofS (ts := [(.pair (.int .u64) (.pair (.int .u64) .unit)), (.pair (.int .u64) (.pair (.int .u64) .unit))]) (T := .bool) (S := E38) CxOK38 Try.func38 (LOK.fn LOK38) (fun x => t38   x.1 x.2.1)
noncomputable def kn21 : Kn := kOf [(38, sm [(.pair (.int .u64) (.pair (.int .u64) .unit)), (.pair (.int .u64) (.pair (.int .u64) .unit))] .bool F38 G38)]
theorem knOK21 : KOK Try.prog kn21 := (KOK.cons Try.call38 (SmOK.sm p38) KOK.nil)
noncomputable def C21 : Cx := CxL Try.Θ kn21 (lOf [])
theorem CxOK21 : CxOK Try.prog C21 := ⟨Try.tabOK, knOK21, by kernel_rfl⟩
theorem LOK21 : LOK Try.prog C21 0 (bodyF Try.f21) := (Lall.LOK rfl (by kernel_rfl) trivial)
noncomputable def E21 : (((Int × (Int × Unit)) × (Int × (Int × Unit))) × ((Int × (Int × Unit)) × (Int × (Int × Unit))) × Unit) → Option Bool := fun x => S21 F38 G38  x.1 x.2.1
noncomputable def F21 : (((Int × (Int × Unit)) × (Int × (Int × Unit))) × ((Int × (Int × Unit)) × (Int × (Int × Unit))) × Unit) → Bool := fun x => (E21 x).getD (dflt .bool)
noncomputable def G21 : (((Int × (Int × Unit)) × (Int × (Int × Unit))) × ((Int × (Int × Unit)) × (Int × (Int × Unit))) × Unit) → Bool := fun x => (E21 x).isSome
theorem p21 : ∀ x, G21 x = true → PureOK Try.prog 21 (mkA [(.pair (.pair (.int .u64) (.pair (.int .u64) .unit)) (.pair (.int .u64) (.pair (.int .u64) .unit))), (.pair (.pair (.int .u64) (.pair (.int .u64) .unit)) (.pair (.int .u64) (.pair (.int .u64) .unit)))] x) ⟨.bool, F21 x⟩ :=
  PureOK.ofS (ts := [(.pair (.pair (.int .u64) (.pair (.int .u64) .unit)) (.pair (.int .u64) (.pair (.int .u64) .unit))), (.pair (.pair (.int .u64) (.pair (.int .u64) .unit)) (.pair (.int .u64) (.pair (.int .u64) .unit)))]) (T := .bool) (S := E21) CxOK21 Try.func21 (LOK.fn LOK21) (fun x => t21 F38 G38  x.1 x.2.1)
noncomputable def kn39 : Kn := kOf [(43, sm [(.int .u64), (.int .u64)] (.pair (.int .u64) (.pair (.int .u64) .unit)) F43 G43)]
theorem knOK39 : KOK Try.prog kn39 := (KOK.cons Try.call43 (SmOK.sm p43) KOK.nil)
noncomputable def C39 : Cx := CxL Try.Θ kn39 (lOf [])
theorem CxOK39 : CxOK Try.prog C39 := ⟨Try.tabOK, knOK39, by kernel_rfl⟩
theorem LOK39 : LOK Try.prog C39 0 (bodyF Try.f39) := (Lall.LOK rfl (by kernel_rfl) trivial)
noncomputable def E39 : (Unit) → Option (Int × (Int × Unit)) := fun x => S39 F43 G43  
noncomputable def F39 : (Unit) → (Int × (Int × Unit)) := fun x => (E39 x).getD (dflt (.pair (.int .u64) (.pair (.int .u64) .unit)))
noncomputable def G39 : (Unit) → Bool := fun x => (E39 x).isSome
theorem p39 : ∀ x, G39 x = true → PureOK Try.prog 39 (mkA [] x) ⟨(.pair (.int .u64) (.pair (.int .u64) .unit)), F39 x⟩ :=
  PureOK.ofS (ts := []) (T := (.pair (.int .u64) (.pair (.int .u64) .unit))) (S := E39) CxOK39 Try.func39 (LOK.fn LOK39) (fun x => t39 F43 G43  )
noncomputable def kn22 : Kn := kOf [(39, sm [] (.pair (.int .u64) (.pair (.int .u64) .unit)) F39 G39)]
theorem knOK22 : KOK Try.prog kn22 := (KOK.cons Try.call39 (SmOK.sm p39) KOK.nil)
noncomputable def C22 : Cx := CxL Try.Θ kn22 (lOf [])
theorem CxOK22 : CxOK Try.prog C22 := ⟨Try.tabOK, knOK22, by kernel_rfl⟩
theorem LOK22 : LOK Try.prog C22 0 (bodyF Try.f22) := (Lall.LOK rfl (by kernel_rfl) trivial)
noncomputable def E22 : (Unit) → Option ((Int × (Int × Unit)) × (Int × (Int × Unit))) := fun x => S22 F39 G39  
noncomputable def F22 : (Unit) → ((Int × (Int × Unit)) × (Int × (Int × Unit))) := fun x => (E22 x).getD (dflt (.pair (.pair (.int .u64) (.pair (.int .u64) .unit)) (.pair (.int .u64) (.pair (.int .u64) .unit))))
noncomputable def G22 : (Unit) → Bool := fun x => (E22 x).isSome
theorem p22 : ∀ x, G22 x = true → PureOK Try.prog 22 (mkA [] x) ⟨(.pair (.pair (.int .u64) (.pair (.int .u64) .unit)) (.pair (.int .u64) (.pair (.int .u64) .unit))), F22 x⟩ :=
  PureOK.ofS (ts := []) (T := (.pair (.pair (.int .u64) (.pair (.int .u64) .unit)) (.pair (.int .u64) (.pair (.int .u64) .unit)))) (S := E22) CxOK22 Try.func22 (LOK.fn LOK22) (fun x => t22 F39 G39  )
noncomputable def kn40 : Kn := kOf [(43, sm [(.int .u64), (.int .u64)] (.pair (.int .u64) (.pair (.int .u64) .unit)) F43 G43)]
theorem knOK40 : KOK Try.prog kn40 := (KOK.cons Try.call43 (SmOK.sm p43) KOK.nil)
noncomputable def C40 : Cx := CxL Try.Θ kn40 (lOf [])
theorem CxOK40 : CxOK Try.prog C40 := ⟨Try.tabOK, knOK40, by kernel_rfl⟩
theorem LOK40 : LOK Try.prog C40 0 (bodyF Try.f40) := (Lall.LOK rfl (by kernel_rfl) trivial)
noncomputable def E40 : (Int × Unit) → Option (Int × (Int × Unit)) := fun x => S40 F43 G43  x.1
noncomputable def F40 : (Int × Unit) → (Int × (Int × Unit)) := fun x => (E40 x).getD (dflt (.pair (.int .u64) (.pair (.int .u64) .unit)))
noncomputable def G40 : (Int × Unit) → Bool := fun x => (E40 x).isSome
theorem p40 : ∀ x, G40 x = true → PureOK Try.prog 40 (mkA [(.int .u64)] x) ⟨(.pair (.int .u64) (.pair (.int .u64) .unit)), F40 x⟩ :=
  PureOK.ofS (ts := [(.int .u64)]) (T := (.pair (.int .u64) (.pair (.int .u64) .unit))) (S := E40) CxOK40 Try.func40 (LOK.fn LOK40) (fun x => t40 F43 G43  x.1)
noncomputable def kn23 : Kn := kOf [(40, sm [(.int .u64)] (.pair (.int .u64) (.pair (.int .u64) .unit)) F40 G40)]
theorem knOK23 : KOK Try.prog kn23 := (KOK.cons Try.call40 (SmOK.sm p40) KOK.nil)
noncomputable def C23 : Cx := CxL Try.Θ kn23 (lOf [])
theorem CxOK23 : CxOK Try.prog C23 := ⟨Try.tabOK, knOK23, by kernel_rfl⟩
theorem LOK23 : LOK Try.prog C23 0 (bodyF Try.f23) := (Lall.LOK rfl (by kernel_rfl) trivial)
noncomputable def E23 : (Int × Unit) → Option ((Int × (Int × Unit)) × (Int × (Int × Unit))) := fun x => S23 F40 G40  x.1
noncomputable def F23 : (Int × Unit) → ((Int × (Int × Unit)) × (Int × (Int × Unit))) := fun x => (E23 x).getD (dflt (.pair (.pair (.int .u64) (.pair (.int .u64) .unit)) (.pair (.int .u64) (.pair (.int .u64) .unit))))
noncomputable def G23 : (Int × Unit) → Bool := fun x => (E23 x).isSome
theorem p23 : ∀ x, G23 x = true → PureOK Try.prog 23 (mkA [(.int .u64)] x) ⟨(.pair (.pair (.int .u64) (.pair (.int .u64) .unit)) (.pair (.int .u64) (.pair (.int .u64) .unit))), F23 x⟩ :=
  PureOK.ofS (ts := [(.int .u64)]) (T := (.pair (.pair (.int .u64) (.pair (.int .u64) .unit)) (.pair (.int .u64) (.pair (.int .u64) .unit)))) (S := E23) CxOK23 Try.func23 (LOK.fn LOK23) (fun x => t23 F40 G40  x.1)
noncomputable def kn6 : Kn := kOf [(7, sm [(.pair (.pair (.int .u64) (.pair (.int .u64) .unit)) (.pair (.int .u64) (.pair (.int .u64) .unit)))] (.pair (.pair (.int .u64) (.pair (.int .u64) .unit)) (.pair (.int .u64) (.pair (.int .u64) .unit))) F7 G7), (9, sm [(.pair (.pair (.int .u64) (.pair (.int .u64) .unit)) (.pair (.int .u64) (.pair (.int .u64) .unit))), (.int .u64)] .bool F9 G9), (12, sm [] .bool F12 G12), (19, sm [(.pair (.pair (.int .u64) (.pair (.int .u64) .unit)) (.pair (.int .u64) (.pair (.int .u64) .unit))), (.int .u64)] .bool F19 G19), (20, sm [(.pair (.pair (.int .u64) (.pair (.int .u64) .unit)) (.pair (.int .u64) (.pair (.int .u64) .unit))), (.pair (.pair (.int .u64) (.pair (.int .u64) .unit)) (.pair (.int .u64) (.pair (.int .u64) .unit)))] .bool F20 G20), (21, sm [(.pair (.pair (.int .u64) (.pair (.int .u64) .unit)) (.pair (.int .u64) (.pair (.int .u64) .unit))), (.pair (.pair (.int .u64) (.pair (.int .u64) .unit)) (.pair (.int .u64) (.pair (.int .u64) .unit)))] .bool F21 G21), (22, sm [] (.pair (.pair (.int .u64) (.pair (.int .u64) .unit)) (.pair (.int .u64) (.pair (.int .u64) .unit))) F22 G22), (23, sm [(.int .u64)] (.pair (.pair (.int .u64) (.pair (.int .u64) .unit)) (.pair (.int .u64) (.pair (.int .u64) .unit))) F23 G23), (24, sm [(.int .u64)] (.pair (.pair (.int .u64) (.pair (.int .u64) .unit)) (.pair (.int .u64) (.pair (.int .u64) .unit))) F24 G24)]
theorem knOK6 : KOK Try.prog kn6 := (KOK.cons Try.call7 (SmOK.sm p7) (KOK.cons Try.call9 (SmOK.sm p9) (KOK.cons Try.call12 (SmOK.sm p12) (KOK.cons Try.call19 (SmOK.sm p19) (KOK.cons Try.call20 (SmOK.sm p20) (KOK.cons Try.call21 (SmOK.sm p21) (KOK.cons Try.call22 (SmOK.sm p22) (KOK.cons Try.call23 (SmOK.sm p23) (KOK.cons Try.call24 (SmOK.sm p24) KOK.nil)))))))))
noncomputable def C6 : Cx := CxL Try.Θ kn6 (lOf [])
theorem CxOK6 : CxOK Try.prog C6 := ⟨Try.tabOK, knOK6, by kernel_rfl⟩
theorem LOK6 : LOK Try.prog C6 0 (bodyF Try.f6) := (Lall.LOK rfl (by kernel_rfl) trivial)
noncomputable def E6 : ((List ((Int × (Int × Unit)) × (Int × (Int × Unit)))) × Int × Unit) → Option Bool := fun x => S6 F7 G7 F9 G9 F12 G12 F19 G19 F20 G20 F21 G21 F22 G22 F23 G23 F24 G24  x.1 x.2.1
noncomputable def F6 : ((List ((Int × (Int × Unit)) × (Int × (Int × Unit)))) × Int × Unit) → Bool := fun x => (E6 x).getD (dflt .bool)
noncomputable def G6 : ((List ((Int × (Int × Unit)) × (Int × (Int × Unit)))) × Int × Unit) → Bool := fun x => (E6 x).isSome
theorem p6 : ∀ x, G6 x = true → PureOK Try.prog 6 (mkA [(.arr 2 (.pair (.pair (.int .u64) (.pair (.int .u64) .unit)) (.pair (.int .u64) (.pair (.int .u64) .unit)))), (.int .u64)] x) ⟨.bool, F6 x⟩ :=
  PureOK.ofS (ts := [(.arr 2 (.pair (.pair (.int .u64) (.pair (.int .u64) .unit)) (.pair (.int .u64) (.pair (.int .u64) .unit)))), (.int .u64)]) (T := .bool) (S := E6) CxOK6 Try.func6 (LOK.fn LOK6) (fun x => t6 F7 G7 F9 G9 F12 G12 F19 G19 F20 G20 F21 G21 F22 G22 F23 G23 F24 G24  x.1 x.2.1)
noncomputable def kn8 : Kn := kOf [(19, sm [(.pair (.pair (.int .u64) (.pair (.int .u64) .unit)) (.pair (.int .u64) (.pair (.int .u64) .unit))), (.int .u64)] .bool F19 G19)]
theorem knOK8 : KOK Try.prog kn8 := (KOK.cons Try.call19 (SmOK.sm p19) KOK.nil)
noncomputable def V8_0 : (Unit × (List Int) × Int × ((Int × (Int × Unit)) × (Int × (Int × Unit))) × Unit) → Option ((Unit × (List Int) × Int × ((Int × (Int × Unit)) × (Int × (Int × Unit))) × Unit) ⊕ ((Unit) ⊕ (Int × Bool × Unit))) := fun x => R8_0 F19 G19 (fun _ => (Sum.inl (()))) (fun _ => false) x.1 x.2.1 x.2.2.1 x.2.2.2.1
noncomputable def W8_0 : (Unit × (List Int) × Int × ((Int × (Int × Unit)) × (Int × (Int × Unit))) × Unit) → ((Unit) ⊕ (Int × Bool × Unit)) := whV (hd := hd8_0) (ys := ys8_0) V8_0
noncomputable def Q8_0 : (Unit × (List Int) × Int × ((Int × (Int × Unit)) × (Int × (Int × Unit))) × Unit) → Bool := whK (hd := hd8_0) (ys := ys8_0) V8_0
noncomputable def C8 : Cx := CxL Try.Θ kn8 (lOf [(0, orc 48 26 0 hd8_0 ys8_0 W8_0 Q8_0)])
theorem CxOK8 : CxOK Try.prog C8 := ⟨Try.tabOK, knOK8, by kernel_rfl⟩
theorem l8_0 : Lone Try.prog C8 0 (.loop (loopB 0 (bodyF Try.f8))) (orc 48 26 0 hd8_0 ys8_0 W8_0 Q8_0) :=
  Lone.of CxOK8 (Lall.LOK rfl (by kernel_rfl) (Lall.skip (by kernel_rfl) trivial)) (by kernel_rfl) (fun x => (r8_0 F19 G19 W8_0 Q8_0 x.1 x.2.1 x.2.2.1 x.2.2.2.1).trans (by rfl))
theorem LOK8 : LOK Try.prog C8 0 (bodyF Try.f8) := (Lall.LOK rfl (by kernel_rfl) (Lall.cons (by kernel_rfl) l8_0 trivial))
noncomputable def E8 : (((Int × (Int × Unit)) × (Int × (Int × Unit))) × Int × Unit) → Option (Int × (Bool × Unit)) := fun x => S8 F19 G19 W8_0 Q8_0 x.1 x.2.1
noncomputable def F8 : (((Int × (Int × Unit)) × (Int × (Int × Unit))) × Int × Unit) → (Int × (Bool × Unit)) := fun x => (E8 x).getD (dflt (.tup (.int .u64) (.tup .bool .tnil)))
noncomputable def G8 : (((Int × (Int × Unit)) × (Int × (Int × Unit))) × Int × Unit) → Bool := fun x => (E8 x).isSome
theorem p8 : ∀ x, G8 x = true → PureOK Try.prog 8 (mkA [(.pair (.pair (.int .u64) (.pair (.int .u64) .unit)) (.pair (.int .u64) (.pair (.int .u64) .unit))), (.int .u64)] x) ⟨(.tup (.int .u64) (.tup .bool .tnil)), F8 x⟩ :=
  PureOK.ofS (ts := [(.pair (.pair (.int .u64) (.pair (.int .u64) .unit)) (.pair (.int .u64) (.pair (.int .u64) .unit))), (.int .u64)]) (T := (.tup (.int .u64) (.tup .bool .tnil))) (S := E8) CxOK8 Try.func8 (LOK.fn LOK8) (fun x => t8 F19 G19 W8_0 Q8_0 x.1 x.2.1)
noncomputable def kn3 : Kn := kOf [(7, sm [(.pair (.pair (.int .u64) (.pair (.int .u64) .unit)) (.pair (.int .u64) (.pair (.int .u64) .unit)))] (.pair (.pair (.int .u64) (.pair (.int .u64) .unit)) (.pair (.int .u64) (.pair (.int .u64) .unit))) F7 G7), (8, sm [(.pair (.pair (.int .u64) (.pair (.int .u64) .unit)) (.pair (.int .u64) (.pair (.int .u64) .unit))), (.int .u64)] (.tup (.int .u64) (.tup .bool .tnil)) F8 G8), (9, sm [(.pair (.pair (.int .u64) (.pair (.int .u64) .unit)) (.pair (.int .u64) (.pair (.int .u64) .unit))), (.int .u64)] .bool F9 G9), (10, sm [(.pair (.pair (.int .u64) (.pair (.int .u64) .unit)) (.pair (.int .u64) (.pair (.int .u64) .unit))), (.int .i64)] (.pair (.pair (.int .u64) (.pair (.int .u64) .unit)) (.pair (.int .u64) (.pair (.int .u64) .unit))) F10 G10), (11, sm [(.pair (.pair (.int .u64) (.pair (.int .u64) .unit)) (.pair (.int .u64) (.pair (.int .u64) .unit))), (.int .i64)] (.pair (.pair (.int .u64) (.pair (.int .u64) .unit)) (.pair (.int .u64) (.pair (.int .u64) .unit))) F11 G11), (12, sm [] .bool F12 G12)]
theorem knOK3 : KOK Try.prog kn3 := (KOK.cons Try.call7 (SmOK.sm p7) (KOK.cons Try.call8 (SmOK.sm p8) (KOK.cons Try.call9 (SmOK.sm p9) (KOK.cons Try.call10 (SmOK.sm p10) (KOK.cons Try.call11 (SmOK.sm p11) (KOK.cons Try.call12 (SmOK.sm p12) KOK.nil))))))
noncomputable def C3 : Cx := CxL Try.Θ kn3 (lOf [])
theorem CxOK3 : CxOK Try.prog C3 := ⟨Try.tabOK, knOK3, by kernel_rfl⟩
theorem LOK3 : LOK Try.prog C3 0 (bodyF Try.f3) := (Lall.LOK rfl (by kernel_rfl) trivial)
noncomputable def E3 : ((List ((Int × (Int × Unit)) × (Int × (Int × Unit)))) × Int × Int × Unit) → Option Bool := fun x => S3 F7 G7 F8 G8 F9 G9 F10 G10 F11 G11 F12 G12  x.1 x.2.1 x.2.2.1
noncomputable def F3 : ((List ((Int × (Int × Unit)) × (Int × (Int × Unit)))) × Int × Int × Unit) → Bool := fun x => (E3 x).getD (dflt .bool)
noncomputable def G3 : ((List ((Int × (Int × Unit)) × (Int × (Int × Unit)))) × Int × Int × Unit) → Bool := fun x => (E3 x).isSome
theorem p3 : ∀ x, G3 x = true → PureOK Try.prog 3 (mkA [(.arr 2 (.pair (.pair (.int .u64) (.pair (.int .u64) .unit)) (.pair (.int .u64) (.pair (.int .u64) .unit)))), (.int .i64), (.int .u64)] x) ⟨.bool, F3 x⟩ :=
  PureOK.ofS (ts := [(.arr 2 (.pair (.pair (.int .u64) (.pair (.int .u64) .unit)) (.pair (.int .u64) (.pair (.int .u64) .unit)))), (.int .i64), (.int .u64)]) (T := .bool) (S := E3) CxOK3 Try.func3 (LOK.fn LOK3) (fun x => t3 F7 G7 F8 G8 F9 G9 F10 G10 F11 G11 F12 G12  x.1 x.2.1 x.2.2.1)
noncomputable def kn4 : Kn := kOf [(9, sm [(.pair (.pair (.int .u64) (.pair (.int .u64) .unit)) (.pair (.int .u64) (.pair (.int .u64) .unit))), (.int .u64)] .bool F9 G9), (12, sm [] .bool F12 G12), (13, sm [(.pair (.pair (.int .u64) (.pair (.int .u64) .unit)) (.pair (.int .u64) (.pair (.int .u64) .unit)))] (.tup (.pair (.pair (.int .u64) (.pair (.int .u64) .unit)) (.pair (.int .u64) (.pair (.int .u64) .unit))) (.tup .bool .tnil)) F13 G13)]
theorem knOK4 : KOK Try.prog kn4 := (KOK.cons Try.call9 (SmOK.sm p9) (KOK.cons Try.call12 (SmOK.sm p12) (KOK.cons Try.call13 (SmOK.sm p13) KOK.nil)))
noncomputable def V4_0 : (Unit × Unit × Unit × Bool × Int × ((Int × (Int × Unit)) × (Int × (Int × Unit))) × (List Int) × ((Int × (Int × Unit)) × (Int × (Int × Unit))) × Unit) → Option ((Unit × Unit × Unit × Bool × Int × ((Int × (Int × Unit)) × (Int × (Int × Unit))) × (List Int) × ((Int × (Int × Unit)) × (Int × (Int × Unit))) × Unit) ⊕ ((Unit) ⊕ (Bool × Unit))) := fun x => R4_0 F9 G9 F12 G12 F13 G13 (fun _ => (Sum.inl (()))) (fun _ => false) x.1 x.2.1 x.2.2.1 x.2.2.2.1 x.2.2.2.2.1 x.2.2.2.2.2.1 x.2.2.2.2.2.2.1 x.2.2.2.2.2.2.2.1
noncomputable def W4_0 : (Unit × Unit × Unit × Bool × Int × ((Int × (Int × Unit)) × (Int × (Int × Unit))) × (List Int) × ((Int × (Int × Unit)) × (Int × (Int × Unit))) × Unit) → ((Unit) ⊕ (Bool × Unit)) := whV (hd := hd4_0) (ys := ys4_0) V4_0
noncomputable def Q4_0 : (Unit × Unit × Unit × Bool × Int × ((Int × (Int × Unit)) × (Int × (Int × Unit))) × (List Int) × ((Int × (Int × Unit)) × (Int × (Int × Unit))) × Unit) → Bool := whK (hd := hd4_0) (ys := ys4_0) V4_0
noncomputable def C4 : Cx := CxL Try.Θ kn4 (lOf [(0, orc 52 27 0 hd4_0 ys4_0 W4_0 Q4_0)])
theorem CxOK4 : CxOK Try.prog C4 := ⟨Try.tabOK, knOK4, by kernel_rfl⟩
theorem l4_0 : Lone Try.prog C4 0 (.loop (loopB 0 (bodyF Try.f4))) (orc 52 27 0 hd4_0 ys4_0 W4_0 Q4_0) :=
  Lone.of CxOK4 (Lall.LOK rfl (by kernel_rfl) (Lall.skip (by kernel_rfl) trivial)) (by kernel_rfl) (fun x => (r4_0 F9 G9 F12 G12 F13 G13 W4_0 Q4_0 x.1 x.2.1 x.2.2.1 x.2.2.2.1 x.2.2.2.2.1 x.2.2.2.2.2.1 x.2.2.2.2.2.2.1 x.2.2.2.2.2.2.2.1).trans (by rfl))
theorem LOK4 : LOK Try.prog C4 0 (bodyF Try.f4) := (Lall.LOK rfl (by kernel_rfl) (Lall.cons (by kernel_rfl) l4_0 trivial))
noncomputable def E4 : (((Int × (Int × Unit)) × (Int × (Int × Unit))) × (List Int) × Unit) → Option Bool := fun x => S4 F9 G9 F12 G12 F13 G13 W4_0 Q4_0 x.1 x.2.1
noncomputable def F4 : (((Int × (Int × Unit)) × (Int × (Int × Unit))) × (List Int) × Unit) → Bool := fun x => (E4 x).getD (dflt .bool)
noncomputable def G4 : (((Int × (Int × Unit)) × (Int × (Int × Unit))) × (List Int) × Unit) → Bool := fun x => (E4 x).isSome
theorem p4 : ∀ x, G4 x = true → PureOK Try.prog 4 (mkA [(.pair (.pair (.int .u64) (.pair (.int .u64) .unit)) (.pair (.int .u64) (.pair (.int .u64) .unit))), (.arr 3 (.int .u64))] x) ⟨.bool, F4 x⟩ :=
  PureOK.ofS (ts := [(.pair (.pair (.int .u64) (.pair (.int .u64) .unit)) (.pair (.int .u64) (.pair (.int .u64) .unit))), (.arr 3 (.int .u64))]) (T := .bool) (S := E4) CxOK4 Try.func4 (LOK.fn LOK4) (fun x => t4 F9 G9 F12 G12 F13 G13 W4_0 Q4_0 x.1 x.2.1)
end Go.Proofs
