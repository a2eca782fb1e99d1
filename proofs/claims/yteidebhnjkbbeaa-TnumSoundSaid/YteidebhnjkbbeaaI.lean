import Derived.Test.YteidebhnjkbbeaaB
import Derived.Test.YteidebhnjkbbeaaGc
namespace Go.Proofs
open Go.GX
set_option linter.unusedVariables false
set_option maxRecDepth 100000
noncomputable def F12 : Unit → Bool := fun _ => true
noncomputable def G12 : Unit → Bool := fun _ => true
theorem t12 : fnT ⟨true, Try.Θ, KX Try.Θ Try.F (fun _ => none) 100 10, 100, fun _ => none⟩ Try.f12 .bool [] = some true := by kernel_rfl
theorem p12 : ∀ x, G12 x = true → PureOK Try.prog 12 (mkA [] x) ⟨.bool, F12 x⟩ := fun x _ => fnT_pure Try.tabOK (KX_ok Try.tabOK Try.FOK KOK.none (by kernel_rfl) 10) (by kernel_rfl) Try.func12 t12
noncomputable def kn9 : Kn := kOf []
theorem knOK9 : KOK Try.prog kn9 := KOK.nil
noncomputable def C9 : Cx := CxL Try.Θ kn9 (lOf [])
theorem CxOK9 : CxOK Try.prog C9 := ⟨Try.tabOK, knOK9, by kernel_rfl⟩
theorem LOK9 : LOK Try.prog C9 0 (bodyF Try.f9) := (Lall.LOK rfl (by kernel_rfl) trivial)
noncomputable def E9 : ((Int × (Int × Unit)) × Unit) → Option (Int × (Int × Unit)) := fun x => S9   x.1
noncomputable def F9 : ((Int × (Int × Unit)) × Unit) → (Int × (Int × Unit)) := fun x => (E9 x).getD (dflt (.pair (.int .u64) (.pair (.int .u64) .unit)))
noncomputable def G9 : ((Int × (Int × Unit)) × Unit) → Bool := fun x => (E9 x).isSome
theorem p9 : ∀ x, G9 x = true → PureOK Try.prog 9 (mkA [(.pair (.int .u64) (.pair (.int .u64) .unit))] x) ⟨(.pair (.int .u64) (.pair (.int .u64) .unit)), F9 x⟩ :=
  PureOK.ofS (ts := [(.pair (.int .u64) (.pair (.int .u64) .unit))]) (T := (.pair (.int .u64) (.pair (.int .u64) .unit))) (S := E9) CxOK9 Try.func9 (LOK.fn LOK9) (fun x => t9   x.1)
noncomputable def kn41 : Kn := kOf []
theorem knOK41 : KOK Try.prog kn41 := KOK.nil
noncomputable def C41 : Cx := CxL Try.Θ kn41 (lOf [])
theorem CxOK41 : CxOK Try.prog C41 := ⟨Try.tabOK, knOK41, by kernel_rfl⟩
theorem LOK41 : LOK Try.prog C41 0 (bodyF Try.f41) := (Lall.LOK rfl (by kernel_rfl) trivial)
noncomputable def E41 : (Int × Int × Unit) → Option (Int × (Int × Unit)) := fun x => S41   x.1 x.2.1
noncomputable def F41 : (Int × Int × Unit) → (Int × (Int × Unit)) := fun x => (E41 x).getD (dflt (.pair (.int .u64) (.pair (.int .u64) .unit)))
noncomputable def G41 : (Int × Int × Unit) → Bool := fun x => (E41 x).isSome
theorem p41 : ∀ x, G41 x = true → PureOK Try.prog 41 (mkA [(.int .u64), (.int .u64)] x) ⟨(.pair (.int .u64) (.pair (.int .u64) .unit)), F41 x⟩ :=
  PureOK.ofS (ts := [(.int .u64), (.int .u64)]) (T := (.pair (.int .u64) (.pair (.int .u64) .unit))) (S := E41) CxOK41 Try.func41 (LOK.fn LOK41) (fun x => t41   x.1 x.2.1)
noncomputable def kn30 : Kn := kOf [(41, sm [(.int .u64), (.int .u64)] (.pair (.int .u64) (.pair (.int .u64) .unit)) F41 G41)]
theorem knOK30 : KOK Try.prog kn30 := (KOK.cons Try.call41 (SmOK.sm p41) KOK.nil)
noncomputable def C30 : Cx := CxL Try.Θ kn30 (lOf [])
theorem CxOK30 : CxOK Try.prog C30 := ⟨Try.tabOK, knOK30, by kernel_rfl⟩
theorem LOK30 : LOK Try.prog C30 0 (bodyF Try.f30) := (Lall.LOK rfl (by kernel_rfl) trivial)
noncomputable def E30 : (Unit × (Int × (Int × Unit)) × (Int × (Int × Unit)) × Unit) → Option (Int × (Int × Unit)) := fun x => S30 F41 G41  x.1 x.2.1 x.2.2.1
noncomputable def F30 : (Unit × (Int × (Int × Unit)) × (Int × (Int × Unit)) × Unit) → (Int × (Int × Unit)) := fun x => (E30 x).getD (dflt (.pair (.int .u64) (.pair (.int .u64) .unit)))
noncomputable def G30 : (Unit × (Int × (Int × Unit)) × (Int × (Int × Unit)) × Unit) → Bool := fun x => (E30 x).isSome
theorem p30 : ∀ x, G30 x = true → PureOK Try.prog 30 (mkA [.unit, (.pair (.int .u64) (.pair (.int .u64) .unit)), (.pair (.int .u64) (.pair (.int .u64) .unit))] x) ⟨(.pair (.int .u64) (.pair (.int .u64) .unit)), F30 x⟩ :=
  PureOK.ofS (ts := [.unit, (.pair (.int .u64) (.pair (.int .u64) .unit)), (.pair (.int .u64) (.pair (.int .u64) .unit))]) (T := (.pair (.int .u64) (.pair (.int .u64) .unit))) (S := E30) CxOK30 Try.func30 (LOK.fn LOK30) (fun x => t30 F41 G41  x.1 x.2.1 x.2.2.1)
noncomputable def kn31 : Kn := kOf [(41, sm [(.int .u64), (.int .u64)] (.pair (.int .u64) (.pair (.int .u64) .unit)) F41 G41)]
theorem knOK31 : KOK Try.prog kn31 := (KOK.cons Try.call41 (SmOK.sm p41) KOK.nil)
noncomputable def C31 : Cx := CxL Try.Θ kn31 (lOf [])
theorem CxOK31 : CxOK Try.prog C31 := ⟨Try.tabOK, knOK31, by kernel_rfl⟩
theorem LOK31 : LOK Try.prog C31 0 (bodyF Try.f31) := (Lall.LOK rfl (by kernel_rfl) trivial)
noncomputable def E31 : (Unit × (Int × (Int × Unit)) × (Int × (Int × Unit)) × Unit) → Option (Int × (Int × Unit)) := fun x => S31 F41 G41  x.1 x.2.1 x.2.2.1
noncomputable def F31 : (Unit × (Int × (Int × Unit)) × (Int × (Int × Unit)) × Unit) → (Int × (Int × Unit)) := fun x => (E31 x).getD (dflt (.pair (.int .u64) (.pair (.int .u64) .unit)))
noncomputable def G31 : (Unit × (Int × (Int × Unit)) × (Int × (Int × Unit)) × Unit) → Bool := fun x => (E31 x).isSome
theorem p31 : ∀ x, G31 x = true → PureOK Try.prog 31 (mkA [.unit, (.pair (.int .u64) (.pair (.int .u64) .unit)), (.pair (.int .u64) (.pair (.int .u64) .unit))] x) ⟨(.pair (.int .u64) (.pair (.int .u64) .unit)), F31 x⟩ :=
  PureOK.ofS (ts := [.unit, (.pair (.int .u64) (.pair (.int .u64) .unit)), (.pair (.int .u64) (.pair (.int .u64) .unit))]) (T := (.pair (.int .u64) (.pair (.int .u64) .unit))) (S := E31) CxOK31 Try.func31 (LOK.fn LOK31) (fun x => t31 F41 G41  x.1 x.2.1 x.2.2.1)
noncomputable def kn42 : Kn := kOf []
theorem knOK42 : KOK Try.prog kn42 := KOK.nil
noncomputable def C42 : Cx := CxL Try.Θ kn42 (lOf [])
theorem CxOK42 : CxOK Try.prog C42 := ⟨Try.tabOK, knOK42, by kernel_rfl⟩
theorem LOK42 : LOK Try.prog C42 0 (bodyF Try.f42) := (Lall.LOK rfl (by kernel_rfl) trivial)
noncomputable def E42 : (Int × Unit) → Option Int := fun x => S42   x.1
noncomputable def F42 : (Int × Unit) → Int := fun x => (E42 x).getD (dflt (.int .i64))
noncomputable def G42 : (Int × Unit) → Bool := fun x => (E42 x).isSome
theorem p42 : ∀ x, G42 x = true → PureOK Try.prog 42 (mkA [(.int .u64)] x) ⟨(.int .i64), F42 x⟩ :=
  PureOK.ofS (ts := [(.int .u64)]) (T := (.int .i64)) (S := E42) CxOK42 Try.func42 (LOK.fn LOK42) (fun x => t42   x.1)
noncomputable def kn38 : Kn := kOf [(41, sm [(.int .u64), (.int .u64)] (.pair (.int .u64) (.pair (.int .u64) .unit)) F41 G41)]
theorem knOK38 : KOK Try.prog kn38 := (KOK.cons Try.call41 (SmOK.sm p41) KOK.nil)
noncomputable def C38 : Cx := CxL Try.Θ kn38 (lOf [])
theorem CxOK38 : CxOK Try.prog C38 := ⟨Try.tabOK, knOK38, by kernel_rfl⟩
theorem LOK38 : LOK Try.prog C38 0 (bodyF Try.f38) := (Lall.LOK rfl (by kernel_rfl) trivial)
noncomputable def E38 : (Int × Unit) → Option (Int × (Int × Unit)) := fun x => S38 F41 G41  x.1
noncomputable def F38 : (Int × Unit) → (Int × (Int × Unit)) := fun x => (E38 x).getD (dflt (.pair (.int .u64) (.pair (.int .u64) .unit)))
noncomputable def G38 : (Int × Unit) → Bool := fun x => (E38 x).isSome
theorem p38 : ∀ x, G38 x = true → PureOK Try.prog 38 (mkA [(.int .u64)] x) ⟨(.pair (.int .u64) (.pair (.int .u64) .unit)), F38 x⟩ :=
  PureOK.ofS (ts := [(.int .u64)]) (T := (.pair (.int .u64) (.pair (.int .u64) .unit))) (S := E38) CxOK38 Try.func38 (LOK.fn LOK38) (fun x => t38 F41 G41  x.1)
noncomputable def kn32 : Kn := kOf [(30, sm [.unit, (.pair (.int .u64) (.pair (.int .u64) .unit)), (.pair (.int .u64) (.pair (.int .u64) .unit))] (.pair (.int .u64) (.pair (.int .u64) .unit)) F30 G30), (38, sm [(.int .u64)] (.pair (.int .u64) (.pair (.int .u64) .unit)) F38 G38), (41, sm [(.int .u64), (.int .u64)] (.pair (.int .u64) (.pair (.int .u64) .unit)) F41 G41), (42, sm [(.int .u64)] (.int .i64) F42 G42)]
theorem knOK32 : KOK Try.prog kn32 := (KOK.cons Try.call30 (SmOK.sm p30) (KOK.cons Try.call38 (SmOK.sm p38) (KOK.cons Try.call41 (SmOK.sm p41) (KOK.cons Try.call42 (SmOK.sm p42) KOK.nil))))
noncomputable def V32_0 : (Unit × Unit × Unit × Unit × Unit × Int × Int × Unit × (Int × (Int × Unit)) × (Int × (Int × Unit)) × (Int × (Int × Unit)) × (Int × (Int × Unit)) × Unit) → Option ((Unit × Unit × Unit × Unit × Unit × Int × Int × Unit × (Int × (Int × Unit)) × (Int × (Int × Unit)) × (Int × (Int × Unit)) × (Int × (Int × Unit)) × Unit) ⊕ (Unit × Unit × Unit × Unit × Unit × Unit × (Int × (Int × Unit)) × (Int × (Int × Unit)) × (Int × (Int × Unit)) × (Int × (Int × Unit)) × Unit)) := fun x => R32_0 F30 G30 F38 G38 F41 G41 F42 G42 (fun _ => ((), (), (), (), (), (), (0, (0, ())), (0, (0, ())), (0, (0, ())), (0, (0, ())), ())) (fun _ => false) x.1 x.2.1 x.2.2.1 x.2.2.2.1 x.2.2.2.2.1 x.2.2.2.2.2.1 x.2.2.2.2.2.2.1 x.2.2.2.2.2.2.2.1 x.2.2.2.2.2.2.2.2.1 x.2.2.2.2.2.2.2.2.2.1 x.2.2.2.2.2.2.2.2.2.2.1 x.2.2.2.2.2.2.2.2.2.2.2.1
noncomputable def W32_0 : (Unit × Unit × Unit × Unit × Unit × Int × Int × Unit × (Int × (Int × Unit)) × (Int × (Int × Unit)) × (Int × (Int × Unit)) × (Int × (Int × Unit)) × Unit) → (Unit × Unit × Unit × Unit × Unit × Unit × (Int × (Int × Unit)) × (Int × (Int × Unit)) × (Int × (Int × Unit)) × (Int × (Int × Unit)) × Unit) := whV (hd := hd32_0) (ys := ys32_0) V32_0
noncomputable def Q32_0 : (Unit × Unit × Unit × Unit × Unit × Int × Int × Unit × (Int × (Int × Unit)) × (Int × (Int × Unit)) × (Int × (Int × Unit)) × (Int × (Int × Unit)) × Unit) → Bool := whK (hd := hd32_0) (ys := ys32_0) V32_0
noncomputable def C32 : Cx := CxL Try.Θ kn32 (lOf [(0, orc 65 29 0 hd32_0 ys32_0 W32_0 Q32_0)])
theorem CxOK32 : CxOK Try.prog C32 := ⟨Try.tabOK, knOK32, by kernel_rfl⟩
theorem l32_0 : Lone Try.prog C32 0 (.loop (loopB 0 (bodyF Try.f32))) (orc 65 29 0 hd32_0 ys32_0 W32_0 Q32_0) :=
  Lone.of CxOK32 (Lall.LOK rfl (by kernel_rfl) (Lall.skip (by kernel_rfl) trivial)) (by kernel_rfl) (fun x => (r32_0 F30 G30 F38 G38 F41 G41 F42 G42 W32_0 Q32_0 x.1 x.2.1 x.2.2.1 x.2.2.2.1 x.2.2.2.2.1 x.2.2.2.2.2.1 x.2.2.2.2.2.2.1 x.2.2.2.2.2.2.2.1 x.2.2.2.2.2.2.2.2.1 x.2.2.2.2.2.2.2.2.2.1 x.2.2.2.2.2.2.2.2.2.2.1 x.2.2.2.2.2.2.2.2.2.2.2.1).trans (by rfl))
theorem LOK32 : LOK Try.prog C32 0 (bodyF Try.f32) := (Lall.LOK rfl (by kernel_rfl) (Lall.cons (by kernel_rfl) l32_0 trivial))
noncomputable def E32 : (Unit × (Int × (Int × Unit)) × (Int × (Int × Unit)) × Unit) → Option (Int × (Int × Unit)) := fun x => S32 F30 G30 F38 G38 F41 G41 F42 G42 W32_0 Q32_0 x.1 x.2.1 x.2.2.1
noncomputable def F32 : (Unit × (Int × (Int × Unit)) × (Int × (Int × Unit)) × Unit) → (Int × (Int × Unit)) := fun x => (E32 x).getD (dflt (.pair (.int .u64) (.pair (.int .u64) .unit)))
noncomputable def G32 : (Unit × (Int × (Int × Unit)) × (Int × (Int × Unit)) × Unit) → Bool := fun x => (E32 x).isSome
theorem p32 : ∀ x, G32 x = true → PureOK Try.prog 32 (mkA [.unit, (.pair (.int .u64) (.pair (.int .u64) .unit)), (.pair (.int .u64) (.pair (.int .u64) .unit))] x) ⟨(.pair (.int .u64) (.pair (.int .u64) .unit)), F32 x⟩ :=
  PureOK.ofS (ts := [.unit, (.pair (.int .u64) (.pair (.int .u64) .unit)), (.pair (.int .u64) (.pair (.int .u64) .unit))]) (T := (.pair (.int .u64) (.pair (.int .u64) .unit))) (S := E32) CxOK32 Try.func32 (LOK.fn LOK32) (fun x => t32 F30 G30 F38 G38 F41 G41 F42 G42 W32_0 Q32_0 x.1 x.2.1 x.2.2.1)
noncomputable def kn33 : Kn := kOf []
theorem knOK33 : KOK Try.prog kn33 := KOK.nil
noncomputable def C33 : Cx := CxL Try.Θ kn33 (lOf [])
theorem CxOK33 : CxOK Try.prog C33 := ⟨Try.tabOK, knOK33, by kernel_rfl⟩
theorem LOK33 : LOK Try.prog C33 0 (bodyF Try.f33) := (Lall.LOK rfl (by kernel_rfl) trivial)
noncomputable def E33 : (Unit × (Int × (Int × Unit)) × (Int × (Int × Unit)) × Unit) → Option (Int × (Int × Unit)) := fun x => S33   x.1 x.2.1 x.2.2.1
noncomputable def F33 : (Unit × (Int × (Int × Unit)) × (Int × (Int × Unit)) × Unit) → (Int × (Int × Unit)) := fun x => (E33 x).getD (dflt (.pair (.int .u64) (.pair (.int .u64) .unit)))
noncomputable def G33 : (Unit × (Int × (Int × Unit)) × (Int × (Int × Unit)) × Unit) → Bool := fun x => (E33 x).isSome
theorem p33 : ∀ x, G33 x = true → PureOK Try.prog 33 (mkA [.unit, (.pair (.int .u64) (.pair (.int .u64) .unit)), (.pair (.int .u64) (.pair (.int .u64) .unit))] x) ⟨(.pair (.int .u64) (.pair (.int .u64) .unit)), F33 x⟩ :=
  PureOK.ofS (ts := [.unit, (.pair (.int .u64) (.pair (.int .u64) .unit)), (.pair (.int .u64) (.pair (.int .u64) .unit))]) (T := (.pair (.int .u64) (.pair (.int .u64) .unit))) (S := E33) CxOK33 Try.func33 (LOK.fn LOK33) (fun x => t33   x.1 x.2.1 x.2.2.1)
noncomputable def kn34 : Kn := kOf []
theorem knOK34 : KOK Try.prog kn34 := KOK.nil
noncomputable def C34 : Cx := CxL Try.Θ kn34 (lOf [])
theorem CxOK34 : CxOK Try.prog C34 := ⟨Try.tabOK, knOK34, by kernel_rfl⟩
theorem LOK34 : LOK Try.prog C34 0 (bodyF Try.f34) := (Lall.LOK rfl (by kernel_rfl) trivial)
noncomputable def E34 : (Unit × (Int × (Int × Unit)) × (Int × (Int × Unit)) × Unit) → Option (Int × (Int × Unit)) := fun x => S34   x.1 x.2.1 x.2.2.1
noncomputable def F34 : (Unit × (Int × (Int × Unit)) × (Int × (Int × Unit)) × Unit) → (Int × (Int × Unit)) := fun x => (E34 x).getD (dflt (.pair (.int .u64) (.pair (.int .u64) .unit)))
noncomputable def G34 : (Unit × (Int × (Int × Unit)) × (Int × (Int × Unit)) × Unit) → Bool := fun x => (E34 x).isSome
theorem p34 : ∀ x, G34 x = true → PureOK Try.prog 34 (mkA [.unit, (.pair (.int .u64) (.pair (.int .u64) .unit)), (.pair (.int .u64) (.pair (.int .u64) .unit))] x) ⟨(.pair (.int .u64) (.pair (.int .u64) .unit)), F34 x⟩ :=
  PureOK.ofS (ts := [.unit, (.pair (.int .u64) (.pair (.int .u64) .unit)), (.pair (.int .u64) (.pair (.int .u64) .unit))]) (T := (.pair (.int .u64) (.pair (.int .u64) .unit))) (S := E34) CxOK34 Try.func34 (LOK.fn LOK34) (fun x => t34   x.1 x.2.1 x.2.2.1)
noncomputable def kn35 : Kn := kOf [(41, sm [(.int .u64), (.int .u64)] (.pair (.int .u64) (.pair (.int .u64) .unit)) F41 G41)]
theorem knOK35 : KOK Try.prog kn35 := (KOK.cons Try.call41 (SmOK.sm p41) KOK.nil)
noncomputable def C35 : Cx := CxL Try.Θ kn35 (lOf [])
theorem CxOK35 : CxOK Try.prog C35 := ⟨Try.tabOK, knOK35, by kernel_rfl⟩
theorem LOK35 : LOK Try.prog C35 0 (bodyF Try.f35) := (Lall.LOK rfl (by kernel_rfl) trivial)
noncomputable def E35 : (Unit × (Int × (Int × Unit)) × (Int × (Int × Unit)) × Unit) → Option (Int × (Int × Unit)) := fun x => S35 F41 G41  x.1 x.2.1 x.2.2.1
noncomputable def F35 : (Unit × (Int × (Int × Unit)) × (Int × (Int × Unit)) × Unit) → (Int × (Int × Unit)) := fun x => (E35 x).getD (dflt (.pair (.int .u64) (.pair (.int .u64) .unit)))
noncomputable def G35 : (Unit × (Int × (Int × Unit)) × (Int × (Int × Unit)) × Unit) → Bool := fun x => (E35 x).isSome
theorem p35 : ∀ x, G35 x = true → PureOK Try.prog 35 (mkA [.unit, (.pair (.int .u64) (.pair (.int .u64) .unit)), (.pair (.int .u64) (.pair (.int .u64) .unit))] x) ⟨(.pair (.int .u64) (.pair (.int .u64) .unit)), F35 x⟩ :=
  PureOK.ofS (ts := [.unit, (.pair (.int .u64) (.pair (.int .u64) .unit)), (.pair (.int .u64) (.pair (.int .u64) .unit))]) (T := (.pair (.int .u64) (.pair (.int .u64) .unit))) (S := E35) CxOK35 Try.func35 (LOK.fn LOK35) (fun x => t35 F41 G41  x.1 x.2.1 x.2.2.1)
noncomputable def kn10 : Kn := kOf [(30, sm [.unit, (.pair (.int .u64) (.pair (.int .u64) .unit)), (.pair (.int .u64) (.pair (.int .u64) .unit))] (.pair (.int .u64) (.pair (.int .u64) .unit)) F30 G30), (31, sm [.unit, (.pair (.int .u64) (.pair (.int .u64) .unit)), (.pair (.int .u64) (.pair (.int .u64) .unit))] (.pair (.int .u64) (.pair (.int .u64) .unit)) F31 G31), (32, sm [.unit, (.pair (.int .u64) (.pair (.int .u64) .unit)), (.pair (.int .u64) (.pair (.int .u64) .unit))] (.pair (.int .u64) (.pair (.int .u64) .unit)) F32 G32), (33, sm [.unit, (.pair (.int .u64) (.pair (.int .u64) .unit)), (.pair (.int .u64) (.pair (.int .u64) .unit))] (.pair (.int .u64) (.pair (.int .u64) .unit)) F33 G33), (34, sm [.unit, (.pair (.int .u64) (.pair (.int .u64) .unit)), (.pair (.int .u64) (.pair (.int .u64) .unit))] (.pair (.int .u64) (.pair (.int .u64) .unit)) F34 G34), (35, sm [.unit, (.pair (.int .u64) (.pair (.int .u64) .unit)), (.pair (.int .u64) (.pair (.int .u64) .unit))] (.pair (.int .u64) (.pair (.int .u64) .unit)) F35 G35)]
theorem knOK10 : KOK Try.prog kn10 := (KOK.cons Try.call30 (SmOK.sm p30) (KOK.cons Try.call31 (SmOK.sm p31) (KOK.cons Try.call32 (SmOK.sm p32) (KOK.cons Try.call33 (SmOK.sm p33) (KOK.cons Try.call34 (SmOK.sm p34) (KOK.cons Try.call35 (SmOK.sm p35) KOK.nil))))))
noncomputable def C10 : Cx := CxL Try.Θ kn10 (lOf [])
theorem CxOK10 : CxOK Try.prog C10 := ⟨Try.tabOK, knOK10, by kernel_rfl⟩
theorem LOK10 : LOK Try.prog C10 0 (bodyF Try.f10) := (Lall.LOK rfl (by kernel_rfl) trivial)
noncomputable def E10 : (Int × (Int × (Int × Unit)) × (Int × (Int × Unit)) × Unit) → Option ((Int × (Int × Unit)) × (Int × Unit)) := fun x => S10 F30 G30 F31 G31 F32 G32 F33 G33 F34 G34 F35 G35  x.1 x.2.1 x.2.2.1
noncomputable def F10 : (Int × (Int × (Int × Unit)) × (Int × (Int × Unit)) × Unit) → ((Int × (Int × Unit)) × (Int × Unit)) := fun x => (E10 x).getD (dflt (.tup (.pair (.int .u64) (.pair (.int .u64) .unit)) (.tup (.int .i64) .tnil)))
noncomputable def G10 : (Int × (Int × (Int × Unit)) × (Int × (Int × Unit)) × Unit) → Bool := fun x => (E10 x).isSome
theorem p10 : ∀ x, G10 x = true → PureOK Try.prog 10 (mkA [(.int .i64), (.pair (.int .u64) (.pair (.int .u64) .unit)), (.pair (.int .u64) (.pair (.int .u64) .unit))] x) ⟨(.tup (.pair (.int .u64) (.pair (.int .u64) .unit)) (.tup (.int .i64) .tnil)), F10 x⟩ :=
  PureOK.ofS (ts := [(.int .i64), (.pair (.int .u64) (.pair (.int .u64) .unit)), (.pair (.int .u64) (.pair (.int .u64) .unit))]) (T := (.tup (.pair (.int .u64) (.pair (.int .u64) .unit)) (.tup (.int .i64) .tnil))) (S := E10) CxOK10 Try.func10 (LOK.fn LOK10) (fun x => t10 F30 G30 F31 G31 F32 G32 F33 G33 F34 G34 F35 G35  x.1 x.2.1 x.2.2.1)
noncomputable def kn36 : Kn := kOf []
theorem knOK36 : KOK Try.prog kn36 := KOK.nil
noncomputable def C36 : Cx := CxL Try.Θ kn36 (lOf [])
theorem CxOK36 : CxOK Try.prog C36 := ⟨Try.tabOK, knOK36, by kernel_rfl⟩
theorem LOK36 : LOK Try.prog C36 0 (bodyF Try.f36) := (Lall.LOK rfl (by kernel_rfl) trivial)
noncomputable def E36 : ((Int × (Int × Unit)) × (Int × (Int × Unit)) × Unit) → Option (Int × (Int × Unit)) := fun x => S36   x.1 x.2.1
noncomputable def F36 : ((Int × (Int × Unit)) × (Int × (Int × Unit)) × Unit) → (Int × (Int × Unit)) := fun x => (E36 x).getD (dflt (.pair (.int .u64) (.pair (.int .u64) .unit)))
noncomputable def G36 : ((Int × (Int × Unit)) × (Int × (Int × Unit)) × Unit) → Bool := fun x => (E36 x).isSome
theorem p36 : ∀ x, G36 x = true → PureOK Try.prog 36 (mkA [(.pair (.int .u64) (.pair (.int .u64) .unit)), (.pair (.int .u64) (.pair (.int .u64) .unit))] x) ⟨(.pair (.int .u64) (.pair (.int .u64) .unit)), F36 x⟩ :=
  PureOK.ofS (ts := [(.pair (.int .u64) (.pair (.int .u64) .unit)), (.pair (.int .u64) (.pair (.int .u64) .unit))]) (T := (.pair (.int .u64) (.pair (.int .u64) .unit))) (S := E36) CxOK36 Try.func36 (LOK.fn LOK36) (fun x => t36   x.1 x.2.1)
noncomputable def kn37 : Kn := kOf [(36, sm [(.pair (.int .u64) (.pair (.int .u64) .unit)), (.pair (.int .u64) (.pair (.int .u64) .unit))] (.pair (.int .u64) (.pair (.int .u64) .unit)) F36 G36)]
theorem knOK37 : KOK Try.prog kn37 := (KOK.cons Try.call36 (SmOK.sm p36) KOK.nil)
noncomputable def V37_0 : (Unit × Unit × Unit × Unit × Unit × (Int × (Int × Unit)) × (Int × (Int × Unit)) × (Int × (Int × Unit)) × (Int × (Int × Unit)) × (Int × (Int × Unit)) × Unit) → Option ((Unit × Unit × Unit × Unit × Unit × (Int × (Int × Unit)) × (Int × (Int × Unit)) × (Int × (Int × Unit)) × (Int × (Int × Unit)) × (Int × (Int × Unit)) × Unit) ⊕ (Unit × Unit × Unit × (Int × (Int × Unit)) × (Int × (Int × Unit)) × (Int × (Int × Unit)) × Unit)) := fun x => R37_0 F36 G36 (fun _ => ((), (), (), (0, (0, ())), (0, (0, ())), (0, (0, ())), ())) (fun _ => false) x.1 x.2.1 x.2.2.1 x.2.2.2.1 x.2.2.2.2.1 x.2.2.2.2.2.1 x.2.2.2.2.2.2.1 x.2.2.2.2.2.2.2.1 x.2.2.2.2.2.2.2.2.1 x.2.2.2.2.2.2.2.2.2.1
noncomputable def W37_0 : (Unit × Unit × Unit × Unit × Unit × (Int × (Int × Unit)) × (Int × (Int × Unit)) × (Int × (Int × Unit)) × (Int × (Int × Unit)) × (Int × (Int × Unit)) × Unit) → (Unit × Unit × Unit × (Int × (Int × Unit)) × (Int × (Int × Unit)) × (Int × (Int × Unit)) × Unit) := whV (hd := hd37_0) (ys := ys37_0) V37_0
noncomputable def Q37_0 : (Unit × Unit × Unit × Unit × Unit × (Int × (Int × Unit)) × (Int × (Int × Unit)) × (Int × (Int × Unit)) × (Int × (Int × Unit)) × (Int × (Int × Unit)) × Unit) → Bool := whK (hd := hd37_0) (ys := ys37_0) V37_0
noncomputable def C37 : Cx := CxL Try.Θ kn37 (lOf [(0, orc 55 29 0 hd37_0 ys37_0 W37_0 Q37_0)])
theorem CxOK37 : CxOK Try.prog C37 := ⟨Try.tabOK, knOK37, by kernel_rfl⟩
theorem l37_0 : Lone Try.prog C37 0 (.loop (loopB 0 (bodyF Try.f37))) (orc 55 29 0 hd37_0 ys37_0 W37_0 Q37_0) :=
  Lone.of CxOK37 (Lall.LOK rfl (by kernel_rfl) (Lall.skip (by kernel_rfl) trivial)) (by kernel_rfl) (fun x => (r37_0 F36 G36 W37_0 Q37_0 x.1 x.2.1 x.2.2.1 x.2.2.2.1 x.2.2.2.2.1 x.2.2.2.2.2.1 x.2.2.2.2.2.2.1 x.2.2.2.2.2.2.2.1 x.2.2.2.2.2.2.2.2.1 x.2.2.2.2.2.2.2.2.2.1).trans (by rfl))
theorem LOK37 : LOK Try.prog C37 0 (bodyF Try.f37) := (Lall.LOK rfl (by kernel_rfl) (Lall.cons (by kernel_rfl) l37_0 trivial))
noncomputable def E37 : ((Int × (Int × Unit)) × (Int × (Int × Unit)) × Unit) → Option (Int × (Int × Unit)) := fun x => S37 F36 G36 W37_0 Q37_0 x.1 x.2.1
noncomputable def F37 : ((Int × (Int × Unit)) × (Int × (Int × Unit)) × Unit) → (Int × (Int × Unit)) := fun x => (E37 x).getD (dflt (.pair (.int .u64) (.pair (.int .u64) .unit)))
noncomputable def G37 : ((Int × (Int × Unit)) × (Int × (Int × Unit)) × Unit) → Bool := fun x => (E37 x).isSome
theorem p37 : ∀ x, G37 x = true → PureOK Try.prog 37 (mkA [(.pair (.int .u64) (.pair (.int .u64) .unit)), (.pair (.int .u64) (.pair (.int .u64) .unit))] x) ⟨(.pair (.int .u64) (.pair (.int .u64) .unit)), F37 x⟩ :=
  PureOK.ofS (ts := [(.pair (.int .u64) (.pair (.int .u64) .unit)), (.pair (.int .u64) (.pair (.int .u64) .unit))]) (T := (.pair (.int .u64) (.pair (.int .u64) .unit))) (S := E37) CxOK37 Try.func37 (LOK.fn LOK37) (fun x => t37 F36 G36 W37_0 Q37_0 x.1 x.2.1)
noncomputable def kn11 : Kn := kOf [(36, sm [(.pair (.int .u64) (.pair (.int .u64) .unit)), (.pair (.int .u64) (.pair (.int .u64) .unit))] (.pair (.int .u64) (.pair (.int .u64) .unit)) F36 G36), (37, sm [(.pair (.int .u64) (.pair (.int .u64) .unit)), (.pair (.int .u64) (.pair (.int .u64) .unit))] (.pair (.int .u64) (.pair (.int .u64) .unit)) F37 G37)]
theorem knOK11 : KOK Try.prog kn11 := (KOK.cons Try.call36 (SmOK.sm p36) (KOK.cons Try.call37 (SmOK.sm p37) KOK.nil))
noncomputable def C11 : Cx := CxL Try.Θ kn11 (lOf [])
theorem CxOK11 : CxOK Try.prog C11 := ⟨Try.tabOK, knOK11, by kernel_rfl⟩
theorem LOK11 : LOK Try.prog C11 0 (bodyF Try.f11) := (Lall.LOK rfl (by kernel_rfl) trivial)
noncomputable def E11 : (Int × (Int × (Int × Unit)) × (Int × (Int × Unit)) × Unit) → Option ((Int × (Int × Unit)) × (Int × Unit)) := fun x => S11 F36 G36 F37 G37  x.1 x.2.1 x.2.2.1
noncomputable def F11 : (Int × (Int × (Int × Unit)) × (Int × (Int × Unit)) × Unit) → ((Int × (Int × Unit)) × (Int × Unit)) := fun x => (E11 x).getD (dflt (.tup (.pair (.int .u64) (.pair (.int .u64) .unit)) (.tup (.int .i64) .tnil)))
noncomputable def G11 : (Int × (Int × (Int × Unit)) × (Int × (Int × Unit)) × Unit) → Bool := fun x => (E11 x).isSome
theorem p11 : ∀ x, G11 x = true → PureOK Try.prog 11 (mkA [(.int .i64), (.pair (.int .u64) (.pair (.int .u64) .unit)), (.pair (.int .u64) (.pair (.int .u64) .unit))] x) ⟨(.tup (.pair (.int .u64) (.pair (.int .u64) .unit)) (.tup (.int .i64) .tnil)), F11 x⟩ :=
  PureOK.ofS (ts := [(.int .i64), (.pair (.int .u64) (.pair (.int .u64) .unit)), (.pair (.int .u64) (.pair (.int .u64) .unit))]) (T := (.tup (.pair (.int .u64) (.pair (.int .u64) .unit)) (.tup (.int .i64) .tnil))) (S := E11) CxOK11 Try.func11 (LOK.fn LOK11) (fun x => t11 F36 G36 F37 G37  x.1 x.2.1 x.2.2.1)
noncomputable def kn3 : Kn := kOf [(9, sm [(.pair (.int .u64) (.pair (.int .u64) .unit))] (.pair (.int .u64) (.pair (.int .u64) .unit)) F9 G9), (10, sm [(.int .i64), (.pair (.int .u64) (.pair (.int .u64) .unit)), (.pair (.int .u64) (.pair (.int .u64) .unit))] (.tup (.pair (.int .u64) (.pair (.int .u64) .unit)) (.tup (.int .i64) .tnil)) F10 G10), (11, sm [(.int .i64), (.pair (.int .u64) (.pair (.int .u64) .unit)), (.pair (.int .u64) (.pair (.int .u64) .unit))] (.tup (.pair (.int .u64) (.pair (.int .u64) .unit)) (.tup (.int .i64) .tnil)) F11 G11), (12, sm [] .bool F12 G12)]
theorem knOK3 : KOK Try.prog kn3 := (KOK.cons Try.call9 (SmOK.sm p9) (KOK.cons Try.call10 (SmOK.sm p10) (KOK.cons Try.call11 (SmOK.sm p11) (KOK.cons Try.call12 (SmOK.sm p12) KOK.nil))))
noncomputable def C3 : Cx := CxL Try.Θ kn3 (lOf [])
theorem CxOK3 : CxOK Try.prog C3 := ⟨Try.tabOK, knOK3, by kernel_rfl⟩
theorem LOK3 : LOK Try.prog C3 0 (bodyF Try.f3) := (Lall.LOK rfl (by kernel_rfl) trivial)
noncomputable def E3 : (Int × (Int × (Int × Unit)) × (Int × (Int × Unit)) × Unit) → Option Bool := fun x => S3 F9 G9 F10 G10 F11 G11 F12 G12  x.1 x.2.1 x.2.2.1
noncomputable def F3 : (Int × (Int × (Int × Unit)) × (Int × (Int × Unit)) × Unit) → Bool := fun x => (E3 x).getD (dflt .bool)
noncomputable def G3 : (Int × (Int × (Int × Unit)) × (Int × (Int × Unit)) × Unit) → Bool := fun x => (E3 x).isSome
theorem p3 : ∀ x, G3 x = true → PureOK Try.prog 3 (mkA [(.int .i64), (.pair (.int .u64) (.pair (.int .u64) .unit)), (.pair (.int .u64) (.pair (.int .u64) .unit))] x) ⟨.bool, F3 x⟩ :=
  PureOK.ofS (ts := [(.int .i64), (.pair (.int .u64) (.pair (.int .u64) .unit)), (.pair (.int .u64) (.pair (.int .u64) .unit))]) (T := .bool) (S := E3) CxOK3 Try.func3 (LOK.fn LOK3) (fun x => t3 F9 G9 F10 G10 F11 G11 F12 G12  x.1 x.2.1 x.2.2.1)
noncomputable def kn13 : Kn := kOf []
theorem knOK13 : KOK Try.prog kn13 := KOK.nil
noncomputable def C13 : Cx := CxL Try.Θ kn13 (lOf [])
theorem CxOK13 : CxOK Try.prog C13 := ⟨Try.tabOK, knOK13, by kernel_rfl⟩
theorem LOK13 : LOK Try.prog C13 0 (bodyF Try.f13) := (Lall.LOK rfl (by kernel_rfl) trivial)
noncomputable def E13 : ((Int × (Int × Unit)) × Int × Unit) → Option Int := fun x => S13   x.1 x.2.1
noncomputable def F13 : ((Int × (Int × Unit)) × Int × Unit) → Int := fun x => (E13 x).getD (dflt (.int .u64))
noncomputable def G13 : ((Int × (Int × Unit)) × Int × Unit) → Bool := fun x => (E13 x).isSome
theorem p13 : ∀ x, G13 x = true → PureOK Try.prog 13 (mkA [(.pair (.int .u64) (.pair (.int .u64) .unit)), (.int .u64)] x) ⟨(.int .u64), F13 x⟩ :=
  PureOK.ofS (ts := [(.pair (.int .u64) (.pair (.int .u64) .unit)), (.int .u64)]) (T := (.int .u64)) (S := E13) CxOK13 Try.func13 (LOK.fn LOK13) (fun x => t13   x.1 x.2.1)
noncomputable def kn39 : Kn := kOf []
theorem knOK39 : KOK Try.prog kn39 := KOK.nil
noncomputable def C39 : Cx := CxL Try.Θ kn39 (lOf [])
theorem CxOK39 : CxOK Try.prog C39 := ⟨Try.tabOK, knOK39, by kernel_rfl⟩
theorem LOK39 : LOK Try.prog C39 0 (bodyF Try.f39) := (Lall.LOK rfl (by kernel_rfl) trivial)
noncomputable def E39 : (Int × Unit) → Option Int := fun x => S39   x.1
noncomputable def F39 : (Int × Unit) → Int := fun x => (E39 x).getD (dflt (.int .u64))
noncomputable def G39 : (Int × Unit) → Bool := fun x => (E39 x).isSome
theorem p39 : ∀ x, G39 x = true → PureOK Try.prog 39 (mkA [(.int .u64)] x) ⟨(.int .u64), F39 x⟩ :=
  PureOK.ofS (ts := [(.int .u64)]) (T := (.int .u64)) (S := E39) CxOK39 Try.func39 (LOK.fn LOK39) (fun x => t39   x.1)
noncomputable def kn40 : Kn := kOf []
theorem knOK40 : KOK Try.prog kn40 := KOK.nil
noncomputable def C40 : Cx := CxL Try.Θ kn40 (lOf [])
theorem CxOK40 : CxOK Try.prog C40 := ⟨Try.tabOK, knOK40, by kernel_rfl⟩
theorem LOK40 : LOK Try.prog C40 0 (bodyF Try.f40) := (Lall.LOK rfl (by kernel_rfl) trivial)
noncomputable def E40 : (Bool × Bool × Bool × Int × Int × Unit) → Option Int := fun x => S40   x.1 x.2.1 x.2.2.1 x.2.2.2.1 x.2.2.2.2.1
noncomputable def F40 : (Bool × Bool × Bool × Int × Int × Unit) → Int := fun x => (E40 x).getD (dflt (.int .u64))
noncomputable def G40 : (Bool × Bool × Bool × Int × Int × Unit) → Bool := fun x => (E40 x).isSome
theorem p40 : ∀ x, G40 x = true → PureOK Try.prog 40 (mkA [.bool, .bool, .bool, (.int .u64), (.int .u64)] x) ⟨(.int .u64), F40 x⟩ :=
  PureOK.ofS (ts := [.bool, .bool, .bool, (.int .u64), (.int .u64)]) (T := (.int .u64)) (S := E40) CxOK40 Try.func40 (LOK.fn LOK40) (fun x => t40   x.1 x.2.1 x.2.2.1 x.2.2.2.1 x.2.2.2.2.1)
noncomputable def kn14 : Kn := kOf [(39, sm [(.int .u64)] (.int .u64) F39 G39), (40, sm [.bool, .bool, .bool, (.int .u64), (.int .u64)] (.int .u64) F40 G40)]
theorem knOK14 : KOK Try.prog kn14 := (KOK.cons Try.call39 (SmOK.sm p39) (KOK.cons Try.call40 (SmOK.sm p40) KOK.nil))
noncomputable def C14 : Cx := CxL Try.Θ kn14 (lOf [])
theorem CxOK14 : CxOK Try.prog C14 := ⟨Try.tabOK, knOK14, by kernel_rfl⟩
theorem LOK14 : LOK Try.prog C14 0 (bodyF Try.f14) := (Lall.LOK rfl (by kernel_rfl) trivial)
noncomputable def E14 : (Int × Bool × Bool × Int × Int × Unit) → Option (Int × (Int × Unit)) := fun x => S14 F39 G39 F40 G40  x.1 x.2.1 x.2.2.1 x.2.2.2.1 x.2.2.2.2.1
noncomputable def F14 : (Int × Bool × Bool × Int × Int × Unit) → (Int × (Int × Unit)) := fun x => (E14 x).getD (dflt (.tup (.int .u64) (.tup (.int .i64) .tnil)))
noncomputable def G14 : (Int × Bool × Bool × Int × Int × Unit) → Bool := fun x => (E14 x).isSome
theorem p14 : ∀ x, G14 x = true → PureOK Try.prog 14 (mkA [(.int .i64), .bool, .bool, (.int .u64), (.int .u64)] x) ⟨(.tup (.int .u64) (.tup (.int .i64) .tnil)), F14 x⟩ :=
  PureOK.ofS (ts := [(.int .i64), .bool, .bool, (.int .u64), (.int .u64)]) (T := (.tup (.int .u64) (.tup (.int .i64) .tnil))) (S := E14) CxOK14 Try.func14 (LOK.fn LOK14) (fun x => t14 F39 G39 F40 G40  x.1 x.2.1 x.2.2.1 x.2.2.2.1 x.2.2.2.2.1)
noncomputable def kn15 : Kn := kOf []
theorem knOK15 : KOK Try.prog kn15 := KOK.nil
noncomputable def C15 : Cx := CxL Try.Θ kn15 (lOf [])
theorem CxOK15 : CxOK Try.prog C15 := ⟨Try.tabOK, knOK15, by kernel_rfl⟩
theorem LOK15 : LOK Try.prog C15 0 (bodyF Try.f15) := (Lall.LOK rfl (by kernel_rfl) trivial)
noncomputable def E15 : ((Int × (Int × Unit)) × Int × Unit) → Option Bool := fun x => S15   x.1 x.2.1
noncomputable def F15 : ((Int × (Int × Unit)) × Int × Unit) → Bool := fun x => (E15 x).getD (dflt .bool)
noncomputable def G15 : ((Int × (Int × Unit)) × Int × Unit) → Bool := fun x => (E15 x).isSome
theorem p15 : ∀ x, G15 x = true → PureOK Try.prog 15 (mkA [(.pair (.int .u64) (.pair (.int .u64) .unit)), (.int .u64)] x) ⟨.bool, F15 x⟩ :=
  PureOK.ofS (ts := [(.pair (.int .u64) (.pair (.int .u64) .unit)), (.int .u64)]) (T := .bool) (S := E15) CxOK15 Try.func15 (LOK.fn LOK15) (fun x => t15   x.1 x.2.1)
noncomputable def kn4 : Kn := kOf [(9, sm [(.pair (.int .u64) (.pair (.int .u64) .unit))] (.pair (.int .u64) (.pair (.int .u64) .unit)) F9 G9), (10, sm [(.int .i64), (.pair (.int .u64) (.pair (.int .u64) .unit)), (.pair (.int .u64) (.pair (.int .u64) .unit))] (.tup (.pair (.int .u64) (.pair (.int .u64) .unit)) (.tup (.int .i64) .tnil)) F10 G10), (12, sm [] .bool F12 G12), (13, sm [(.pair (.int .u64) (.pair (.int .u64) .unit)), (.int .u64)] (.int .u64) F13 G13), (14, sm [(.int .i64), .bool, .bool, (.int .u64), (.int .u64)] (.tup (.int .u64) (.tup (.int .i64) .tnil)) F14 G14), (15, sm [(.pair (.int .u64) (.pair (.int .u64) .unit)), (.int .u64)] .bool F15 G15)]
theorem knOK4 : KOK Try.prog kn4 := (KOK.cons Try.call9 (SmOK.sm p9) (KOK.cons Try.call10 (SmOK.sm p10) (KOK.cons Try.call12 (SmOK.sm p12) (KOK.cons Try.call13 (SmOK.sm p13) (KOK.cons Try.call14 (SmOK.sm p14) (KOK.cons Try.call15 (SmOK.sm p15) KOK.nil))))))
noncomputable def C4 : Cx := CxL Try.Θ kn4 (lOf [])
theorem CxOK4 : CxOK Try.prog C4 := ⟨Try.tabOK, knOK4, by kernel_rfl⟩
theorem LOK4 : LOK Try.prog C4 0 (bodyF Try.f4) := (Lall.LOK rfl (by kernel_rfl) trivial)
noncomputable def E4 : (Int × (List (Int × (Int × Unit))) × (List Int) × Unit) → Option Bool := fun x => S4 F9 G9 F10 G10 F12 G12 F13 G13 F14 G14 F15 G15  x.1 x.2.1 x.2.2.1
noncomputable def F4 : (Int × (List (Int × (Int × Unit))) × (List Int) × Unit) → Bool := fun x => (E4 x).getD (dflt .bool)
noncomputable def G4 : (Int × (List (Int × (Int × Unit))) × (List Int) × Unit) → Bool := fun x => (E4 x).isSome
theorem p4 : ∀ x, G4 x = true → PureOK Try.prog 4 (mkA [(.int .i64), (.arr 2 (.pair (.int .u64) (.pair (.int .u64) .unit))), (.arr 2 (.int .u64))] x) ⟨.bool, F4 x⟩ :=
  PureOK.ofS (ts := [(.int .i64), (.arr 2 (.pair (.int .u64) (.pair (.int .u64) .unit))), (.arr 2 (.int .u64))]) (T := .bool) (S := E4) CxOK4 Try.func4 (LOK.fn LOK4) (fun x => t4 F9 G9 F10 G10 F12 G12 F13 G13 F14 G14 F15 G15  x.1 x.2.1 x.2.2.1)
end Go.Proofs
