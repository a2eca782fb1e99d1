import Derived.Test.YtnbpakmcibjmaaaB
import Derived.Test.YtnbpakmcibjmaaaGc
namespace Go.Proofs
open Go.GX
set_option linter.unusedVariables false
set_option maxRecDepth 100000

noncomputable def F16 : Unit → Bool := fun _ => true
noncomputable def G16 : Unit → Bool := fun _ => true
theorem t16 : fnT ⟨true, Try.Θ, KX Try.Θ Try.F (fun _ => none) 100 10, 100, fun _ => none⟩ Try.f16 .bool [] = some true := by kernel_rfl
theorem p16 : ∀ x, G16 x = true → PureOK Try.prog 16 (mkA [] x) ⟨.bool, F16 x⟩ := fun x _ => fnT_pure Try.tabOK (KX_ok Try.tabOK Try.FOK KOK.none (by kernel_rfl) 10) (by kernel_rfl) Try.func16 t16
noncomputable def kn13 : Kn := kOf []
theorem knOK13 : KOK Try.prog kn13 := KOK.nil
noncomputable def C13 : Cx := CxL Try.Θ kn13 (lOf [])
theorem CxOK13 : CxOK Try.prog C13 := ⟨Try.tabOK, knOK13, by kernel_rfl⟩
theorem LOK13 : LOK Try.prog C13 0 (bodyF Try.f13) := (Lall.LOK rfl (by kernel_rfl) trivial)
noncomputable def E13 : (Unit) → Option KD0 := fun x => S13   
noncomputable def F13 : (Unit) → KD0 := fun x => (E13 x).getD (dflt (.tup .str KT1))
noncomputable def G13 : (Unit) → Bool := fun x => (E13 x).isSome
theorem p13 : ∀ x : (Unit), G13 x = true → PureOK Try.prog 13 (mkA [.ptr] (none, ())) ⟨(.tup .str KT1), F13 x⟩ :=
  fun x => PureOK.of1 CxOK13 Try.func13 (LOK.fn LOK13) (t13   )
noncomputable def kn11 : Kn := kOf [(13, sm [.ptr] (.tup .str KT1) (fun x => F13 x.2) (fun x => x.1.isNone && G13 x.2))]
theorem knOK11 : KOK Try.prog kn11 := (KOK.cons Try.call13 (SmOK.sm (nilP (ts := []) (T := (.tup .str KT1)) (F := F13) (G := G13) p13)) KOK.nil)
noncomputable def C11 : Cx := CxL Try.Θ kn11 (lOf [])
theorem CxOK11 : CxOK Try.prog C11 := ⟨Try.tabOK, knOK11, by kernel_rfl⟩
theorem LOK11 : LOK Try.prog C11 0 (bodyF Try.f11) := (Lall.LOK rfl (by kernel_rfl) trivial)
noncomputable def E11 : (Unit) → Option KD0 := fun x => S11 F13 G13  
noncomputable def F11 : (Unit) → KD0 := fun x => (E11 x).getD (dflt (.tup .str KT1))
noncomputable def G11 : (Unit) → Bool := fun x => (E11 x).isSome
theorem p11 : ∀ x : (Unit), G11 x = true → PureOK Try.prog 11 (mkA [.ptr] (none, ())) ⟨(.tup .str KT1), F11 x⟩ :=
  fun x => PureOK.of1 CxOK11 Try.func11 (LOK.fn LOK11) (t11 F13 G13  )
noncomputable def kn9 : Kn := kOf []
theorem knOK9 : KOK Try.prog kn9 := KOK.nil
noncomputable def C9 : Cx := CxL Try.Θ kn9 (lOf [])
theorem CxOK9 : CxOK Try.prog C9 := ⟨Try.tabOK, knOK9, by kernel_rfl⟩
theorem LOK9 : LOK Try.prog C9 0 (bodyF Try.f9) := (Lall.LOK rfl (by kernel_rfl) trivial)
noncomputable def E9 : ((List UInt8) × Int × Unit) → Option Int := fun x => S9   x.1 x.2.1
noncomputable def F9 : ((List UInt8) × Int × Unit) → Int := fun x => (E9 x).getD (dflt (.int .i64))
noncomputable def G9 : ((List UInt8) × Int × Unit) → Bool := fun x => (E9 x).isSome
theorem p9 : ∀ x : ((List UInt8) × Int × Unit), G9 x = true → PureOK Try.prog 9 (mkA [.ptr, .str, (.int .i64)] (none, x.1, x.2.1, ())) ⟨(.int .i64), F9 x⟩ :=
  fun x => PureOK.of1 CxOK9 Try.func9 (LOK.fn LOK9) (t9   x.1 x.2.1)
noncomputable def kn15 : Kn := kOf []
theorem knOK15 : KOK Try.prog kn15 := KOK.nil
noncomputable def C15 : Cx := CxL Try.Θ kn15 (lOf [])
theorem CxOK15 : CxOK Try.prog C15 := ⟨Try.tabOK, knOK15, by kernel_rfl⟩
theorem LOK15 : LOK Try.prog C15 0 (bodyF Try.f15) := (Lall.LOK rfl (by kernel_rfl) trivial)
noncomputable def E15 : (Unit) → Option Int := fun x => S15   
noncomputable def F15 : (Unit) → Int := fun x => (E15 x).getD (dflt (.int .i64))
noncomputable def G15 : (Unit) → Bool := fun x => (E15 x).isSome
theorem p15 : ∀ x : (Unit), G15 x = true → PureOK Try.prog 15 (mkA [.ptr] (none, ())) ⟨(.int .i64), F15 x⟩ :=
  fun x => PureOK.of1 CxOK15 Try.func15 (LOK.fn LOK15) (t15   )
noncomputable def kn5 : Kn := kOf [(9, sm [.ptr, .str, (.int .i64)] (.int .i64) (fun x => F9 x.2) (fun x => x.1.isNone && G9 x.2)), (11, sm [.ptr] (.tup .str KT1) (fun x => F11 x.2) (fun x => x.1.isNone && G11 x.2)), (13, sm [.ptr] (.tup .str KT1) (fun x => F13 x.2) (fun x => x.1.isNone && G13 x.2)), (15, sm [.ptr] (.int .i64) (fun x => F15 x.2) (fun x => x.1.isNone && G15 x.2)), (16, sm [] .bool F16 G16)]
theorem knOK5 : KOK Try.prog kn5 := (KOK.cons Try.call9 (SmOK.sm (nilP (ts := [.str, (.int .i64)]) (T := (.int .i64)) (F := F9) (G := G9) p9)) (KOK.cons Try.call11 (SmOK.sm (nilP (ts := []) (T := (.tup .str KT1)) (F := F11) (G := G11) p11)) (KOK.cons Try.call13 (SmOK.sm (nilP (ts := []) (T := (.tup .str KT1)) (F := F13) (G := G13) p13)) (KOK.cons Try.call15 (SmOK.sm (nilP (ts := []) (T := (.int .i64)) (F := F15) (G := G15) p15)) (KOK.cons Try.call16 (SmOK.sm p16) KOK.nil)))))
noncomputable def C5 : Cx := CxL Try.Θ kn5 (lOf [])
theorem CxOK5 : CxOK Try.prog C5 := ⟨Try.tabOK, knOK5, by kernel_rfl⟩
theorem LOK5 : LOK Try.prog C5 0 (bodyF Try.f5) := (Lall.LOK rfl (by kernel_rfl) trivial)
noncomputable def E5 : ((Int × KD2) × Unit) → Option Bool := fun x => S5 F9 G9 F11 G11 F13 G13 F15 G15 F16 G16  x.1
noncomputable def F5 : ((Int × KD2) × Unit) → Bool := fun x => (E5 x).getD (dflt .bool)
noncomputable def G5 : ((Int × KD2) × Unit) → Bool := fun x => (E5 x).isSome
theorem p5 : ∀ x, G5 x = true → PureOK Try.prog 5 (mkA [(.pair (.int .i64) KT3)] x) ⟨.bool, F5 x⟩ :=
  PureOK.ofS (ts := [(.pair (.int .i64) KT3)]) (T := .bool) (S := E5) CxOK5 Try.func5 (LOK.fn LOK5) (fun x => t5 F9 G9 F11 G11 F13 G13 F15 G15 F16 G16  x.1)
end Go.Proofs
