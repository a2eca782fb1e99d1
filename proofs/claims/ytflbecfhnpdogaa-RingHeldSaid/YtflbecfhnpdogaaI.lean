import Derived.Test.YtflbecfhnpdogaaB
import Derived.Test.YtflbecfhnpdogaaGd
namespace Go.Proofs
open Go.GX
set_option linter.unusedVariables false
set_option maxRecDepth 100000

noncomputable def F12 : Unit → Bool := fun _ => true
noncomputable def G12 : Unit → Bool := fun _ => true
theorem t12 : fnT ⟨true, Try.Θ, KX Try.Θ Try.F (fun _ => none) 100 10, 100, fun _ => none, fun _ => none⟩ Try.f12 .bool [] = some true := by kernel_rfl
theorem p12 : ∀ x, G12 x = true → PureOK Try.prog 12 (mkA [] x) ⟨.bool, F12 x⟩ := fun x _ => fnT_pure Try.tabOK (KX_ok Try.tabOK Try.FOK KOK.none (by kernel_rfl) 10) (by kernel_rfl) Try.func12 t12
noncomputable def kn18 : Kn := kOf []
theorem knOK18 : KOK Try.prog kn18 := KOK.nil
noncomputable def C18 : Cx := CxL Try.Θ kn18 (lOf [])
theorem CxOK18 : CxOK Try.prog C18 := ⟨Try.tabOK, knOK18, by kernel_rfl, POK.none⟩
theorem LOK18 : LOK Try.prog C18 0 (bodyF Try.f18) := (Lall.LOK rfl (by kernel_rfl) trivial)
noncomputable def E18 : (Int × Unit) → Option Int := fun x => S18   x.1
noncomputable def F18 : (Int × Unit) → Int := fun x => (E18 x).getD (dflt (.int .i64))
noncomputable def G18 : (Int × Unit) → Bool := fun x => (E18 x).isSome
theorem p18 : ∀ x, G18 x = true → PureOK Try.prog 18 (mkA [(.int .i64)] x) ⟨(.int .i64), F18 x⟩ :=
  PureOK.ofS (ts := [(.int .i64)]) (T := (.int .i64)) (S := E18) CxOK18 Try.func18 (LOK.fn LOK18) (fun x => t18   x.1)
noncomputable def kn9 : Kn := kOf []
theorem knOK9 : KOK Try.prog kn9 := KOK.nil
noncomputable def C9 : Cx := CxL Try.Θ kn9 (lOf [])
theorem CxOK9 : CxOK Try.prog C9 := ⟨Try.tabOK, knOK9, by kernel_rfl, POK.none⟩
theorem LOK9 : LOK Try.prog C9 0 (bodyF Try.f9) := (Lall.LOK rfl (by kernel_rfl) trivial)
noncomputable def E9 : (Unit) → Option Int := fun x => S9   
noncomputable def F9 : (Unit) → Int := fun x => (E9 x).getD (dflt (.int .i64))
noncomputable def G9 : (Unit) → Bool := fun x => (E9 x).isSome
theorem p9 : ∀ x : (Unit), G9 x = true → PureOK Try.prog 9 (mkA [.ptr] (none, ())) ⟨(.int .i64), F9 x⟩ :=
  fun x => PureOK.of1 CxOK9 Try.func9 (LOK.fn LOK9) (t9   )
noncomputable def kn13 : Kn := kOf []
theorem knOK13 : KOK Try.prog kn13 := KOK.nil
noncomputable def C13 : Cx := CxL Try.Θ kn13 (lOf [])
theorem CxOK13 : CxOK Try.prog C13 := ⟨Try.tabOK, knOK13, by kernel_rfl, POK.none⟩
theorem LOK13 : LOK Try.prog C13 0 (bodyF Try.f13) := (Lall.LOK rfl (by kernel_rfl) trivial)
noncomputable def E13 : (Int × Unit) → Option (Int × (Int × Unit)) := fun x => S13   x.1
noncomputable def F13 : (Int × Unit) → (Int × (Int × Unit)) := fun x => (E13 x).getD (dflt (.tup (.int .u64) KT0))
noncomputable def G13 : (Int × Unit) → Bool := fun x => (E13 x).isSome
theorem p13 : ∀ x : (Int × Unit), G13 x = true → PureOK Try.prog 13 (mkA [.ptr, (.int .i64)] (none, x.1, ())) ⟨(.tup (.int .u64) KT0), F13 x⟩ :=
  fun x => PureOK.of1 CxOK13 Try.func13 (LOK.fn LOK13) (t13   x.1)
noncomputable def kn7n : Kn := kOf []
theorem knOK7n : KOK Try.prog kn7n := KOK.nil
noncomputable def C7n : Cx := CxL Try.Θ kn7n (lOf [])
theorem CxOK7n : CxOK Try.prog C7n := ⟨Try.tabOK, knOK7n, by kernel_rfl, POK.none⟩
theorem LOK7n : LOK Try.prog C7n 0 (bodyF Try.f7) := (Lall.LOK rfl (by kernel_rfl) trivial)
noncomputable def E7n : ((Int × KD1) × Unit) → Option (Int × Unit) := fun z => S7n   z.1
noncomputable def F7n : ((Int × KD1) × Unit) → (Int × Unit) := fun z => (E7n z).getD (dflt KT0)
noncomputable def G7n : ((Int × KD1) × Unit) → Bool := fun z => (E7n z).isSome
theorem sm7n_ok : SmOK Try.prog 7 (smNil (.ptr :: [(.pair (.int .i64) KT3)]) KT0 (fun x => F7n x.2) (fun x => x.1.isNone && G7n x.2)) := SmOK.smNilN (ts := [(.pair (.int .i64) KT3)]) (T := KT0) (S := E7n) CxOK7n Try.func7 (LOK.fn LOK7n) (fun z => t7n   z.1)
noncomputable def kn21 : Kn := kOf []
theorem knOK21 : KOK Try.prog kn21 := KOK.nil
noncomputable def C21 : Cx := CxL Try.Θ kn21 (lOf [])
theorem CxOK21 : CxOK Try.prog C21 := ⟨Try.tabOK, knOK21, by kernel_rfl, POK.none⟩
theorem LOK21 : LOK Try.prog C21 0 (bodyF Try.f21) := (Lall.LOK rfl (by kernel_rfl) trivial)
noncomputable def E21 : (Int × Bool × Unit) → Option Int := fun x => S21   x.1 x.2.1
noncomputable def F21 : (Int × Bool × Unit) → Int := fun x => (E21 x).getD (dflt (.int .i64))
noncomputable def G21 : (Int × Bool × Unit) → Bool := fun x => (E21 x).isSome
theorem p21 : ∀ x : (Int × Bool × Unit), G21 x = true → PureOK Try.prog 21 (mkA [.ptr, (.int .u64), .bool] (none, x.1, x.2.1, ())) ⟨(.int .i64), F21 x⟩ :=
  fun x => PureOK.of1 CxOK21 Try.func21 (LOK.fn LOK21) (t21   x.1 x.2.1)
noncomputable def kn15 : Kn := kOf [(21, sm [.ptr, (.int .u64), .bool] (.int .i64) (fun x => F21 x.2) (fun x => x.1.isNone && G21 x.2))]
theorem knOK15 : KOK Try.prog kn15 := (KOK.cons Try.call21 (SmOK.sm (nilP (ts := [(.int .u64), .bool]) (T := (.int .i64)) (F := F21) (G := G21) p21)) KOK.nil)
noncomputable def C15 : Cx := CxL Try.Θ kn15 (lOf [])
theorem CxOK15 : CxOK Try.prog C15 := ⟨Try.tabOK, knOK15, by kernel_rfl, POK.none⟩
theorem LOK15 : LOK Try.prog C15 0 (bodyF Try.f15) := (Lall.LOK rfl (by kernel_rfl) trivial)
noncomputable def E15 : (Int × Unit) → Option Int := fun x => S15 F21 G21  x.1
noncomputable def F15 : (Int × Unit) → Int := fun x => (E15 x).getD (dflt (.int .i64))
noncomputable def G15 : (Int × Unit) → Bool := fun x => (E15 x).isSome
theorem p15 : ∀ x : (Int × Unit), G15 x = true → PureOK Try.prog 15 (mkA [.ptr, (.int .u64)] (none, x.1, ())) ⟨(.int .i64), F15 x⟩ :=
  fun x => PureOK.of1 CxOK15 Try.func15 (LOK.fn LOK15) (t15 F21 G21  x.1)
noncomputable def kn16 : Kn := kOf [(21, sm [.ptr, (.int .u64), .bool] (.int .i64) (fun x => F21 x.2) (fun x => x.1.isNone && G21 x.2))]
theorem knOK16 : KOK Try.prog kn16 := (KOK.cons Try.call21 (SmOK.sm (nilP (ts := [(.int .u64), .bool]) (T := (.int .i64)) (F := F21) (G := G21) p21)) KOK.nil)
noncomputable def C16 : Cx := CxL Try.Θ kn16 (lOf [])
theorem CxOK16 : CxOK Try.prog C16 := ⟨Try.tabOK, knOK16, by kernel_rfl, POK.none⟩
theorem LOK16 : LOK Try.prog C16 0 (bodyF Try.f16) := (Lall.LOK rfl (by kernel_rfl) trivial)
noncomputable def E16 : (Int × Unit) → Option Int := fun x => S16 F21 G21  x.1
noncomputable def F16 : (Int × Unit) → Int := fun x => (E16 x).getD (dflt (.int .i64))
noncomputable def G16 : (Int × Unit) → Bool := fun x => (E16 x).isSome
theorem p16 : ∀ x : (Int × Unit), G16 x = true → PureOK Try.prog 16 (mkA [.ptr, (.int .u64)] (none, x.1, ())) ⟨(.int .i64), F16 x⟩ :=
  fun x => PureOK.of1 CxOK16 Try.func16 (LOK.fn LOK16) (t16 F21 G21  x.1)
noncomputable def kn8 : Kn := kOf [(13, sm [.ptr, (.int .i64)] (.tup (.int .u64) KT0) (fun x => F13 x.2) (fun x => x.1.isNone && G13 x.2))]
theorem knOK8 : KOK Try.prog kn8 := (KOK.cons Try.call13 (SmOK.sm (nilP (ts := [(.int .i64)]) (T := (.tup (.int .u64) KT0)) (F := F13) (G := G13) p13)) KOK.nil)
noncomputable def C8 : Cx := CxL Try.Θ kn8 (lOf [])
theorem CxOK8 : CxOK Try.prog C8 := ⟨Try.tabOK, knOK8, by kernel_rfl, POK.none⟩
theorem LOK8 : LOK Try.prog C8 0 (bodyF Try.f8) := (Lall.LOK rfl (by kernel_rfl) trivial)
noncomputable def E8 : ((List UInt8) × Unit) → Option Int := fun x => S8 F13 G13  x.1
noncomputable def F8 : ((List UInt8) × Unit) → Int := fun x => (E8 x).getD (dflt (.int .i64))
noncomputable def G8 : ((List UInt8) × Unit) → Bool := fun x => (E8 x).isSome
theorem p8 : ∀ x : ((List UInt8) × Unit), G8 x = true → PureOK Try.prog 8 (mkA [.ptr, .str] (none, x.1, ())) ⟨(.int .i64), F8 x⟩ :=
  fun x => PureOK.of1 CxOK8 Try.func8 (LOK.fn LOK8) (t8 F13 G13  x.1)
noncomputable def kn11 : Kn := kOf []
theorem knOK11 : KOK Try.prog kn11 := KOK.nil
noncomputable def C11 : Cx := CxL Try.Θ kn11 (lOf [])
theorem CxOK11 : CxOK Try.prog C11 := ⟨Try.tabOK, knOK11, by kernel_rfl, POK.none⟩
theorem LOK11 : LOK Try.prog C11 0 (bodyF Try.f11) := (Lall.LOK rfl (by kernel_rfl) trivial)
noncomputable def E11 : (Unit) → Option (List (List UInt8)) := fun x => S11   
noncomputable def F11 : (Unit) → (List (List UInt8)) := fun x => (E11 x).getD (dflt (.vsl .str))
noncomputable def G11 : (Unit) → Bool := fun x => (E11 x).isSome
theorem p11 : ∀ x : (Unit), G11 x = true → PureOK Try.prog 11 (mkA [.ptr] (none, ())) ⟨(.vsl .str), F11 x⟩ :=
  fun x => PureOK.of1 CxOK11 Try.func11 (LOK.fn LOK11) (t11   )
noncomputable def kn17 : Kn := kOf []
theorem knOK17 : KOK Try.prog kn17 := KOK.nil
noncomputable def C17 : Cx := CxL Try.Θ kn17 (lOf [])
theorem CxOK17 : CxOK Try.prog C17 := ⟨Try.tabOK, knOK17, by kernel_rfl, POK.none⟩
theorem LOK17 : LOK Try.prog C17 0 (bodyF Try.f17) := (Lall.LOK rfl (by kernel_rfl) trivial)
noncomputable def E17 : (Unit) → Option Int := fun x => S17   
noncomputable def F17 : (Unit) → Int := fun x => (E17 x).getD (dflt (.int .i64))
noncomputable def G17 : (Unit) → Bool := fun x => (E17 x).isSome
theorem p17 : ∀ x : (Unit), G17 x = true → PureOK Try.prog 17 (mkA [.ptr] (none, ())) ⟨(.int .i64), F17 x⟩ :=
  fun x => PureOK.of1 CxOK17 Try.func17 (LOK.fn LOK17) (t17   )
noncomputable def kn5 : Kn := kOf [(7, smNil [.ptr, (.pair (.int .i64) KT3)] KT0 (fun x => F7n x.2) (fun x => x.1.isNone && G7n x.2)), (8, sm [.ptr, .str] (.int .i64) (fun x => F8 x.2) (fun x => x.1.isNone && G8 x.2)), (9, sm [.ptr] (.int .i64) (fun x => F9 x.2) (fun x => x.1.isNone && G9 x.2)), (11, sm [.ptr] (.vsl .str) (fun x => F11 x.2) (fun x => x.1.isNone && G11 x.2)), (12, sm [] .bool F12 G12), (13, sm [.ptr, (.int .i64)] (.tup (.int .u64) KT0) (fun x => F13 x.2) (fun x => x.1.isNone && G13 x.2)), (15, sm [.ptr, (.int .u64)] (.int .i64) (fun x => F15 x.2) (fun x => x.1.isNone && G15 x.2)), (16, sm [.ptr, (.int .u64)] (.int .i64) (fun x => F16 x.2) (fun x => x.1.isNone && G16 x.2)), (17, sm [.ptr] (.int .i64) (fun x => F17 x.2) (fun x => x.1.isNone && G17 x.2))]
theorem knOK5 : KOK Try.prog kn5 := (KOK.cons Try.call7 sm7n_ok (KOK.cons Try.call8 (SmOK.sm (nilP (ts := [.str]) (T := (.int .i64)) (F := F8) (G := G8) p8)) (KOK.cons Try.call9 (SmOK.sm (nilP (ts := []) (T := (.int .i64)) (F := F9) (G := G9) p9)) (KOK.cons Try.call11 (SmOK.sm (nilP (ts := []) (T := (.vsl .str)) (F := F11) (G := G11) p11)) (KOK.cons Try.call12 (SmOK.sm p12) (KOK.cons Try.call13 (SmOK.sm (nilP (ts := [(.int .i64)]) (T := (.tup (.int .u64) KT0)) (F := F13) (G := G13) p13)) (KOK.cons Try.call15 (SmOK.sm (nilP (ts := [(.int .u64)]) (T := (.int .i64)) (F := F15) (G := G15) p15)) (KOK.cons Try.call16 (SmOK.sm (nilP (ts := [(.int .u64)]) (T := (.int .i64)) (F := F16) (G := G16) p16)) (KOK.cons Try.call17 (SmOK.sm (nilP (ts := []) (T := (.int .i64)) (F := F17) (G := G17) p17)) KOK.nil)))))))))
noncomputable def C5 : Cx := CxL Try.Θ kn5 (lOf [])
theorem CxOK5 : CxOK Try.prog C5 := ⟨Try.tabOK, knOK5, by kernel_rfl, POK.none⟩
theorem LOK5 : LOK Try.prog C5 0 (bodyF Try.f5) := (Lall.LOK rfl (by kernel_rfl) trivial)
noncomputable def E5 : ((Int × (Int × KD4)) × Unit) → Option Bool := fun x => S5 F7n G7n F8 G8 F9 G9 F11 G11 F12 G12 F13 G13 F15 G15 F16 G16 F17 G17  x.1
noncomputable def F5 : ((Int × (Int × KD4)) × Unit) → Bool := fun x => (E5 x).getD (dflt .bool)
noncomputable def G5 : ((Int × (Int × KD4)) × Unit) → Bool := fun x => (E5 x).isSome
theorem p5 : ∀ x, G5 x = true → PureOK Try.prog 5 (mkA [KT6] x) ⟨.bool, F5 x⟩ :=
  PureOK.ofS (ts := [KT6]) (T := .bool) (S := E5) CxOK5 Try.func5 (LOK.fn LOK5) (fun x => t5 F7n G7n F8 G8 F9 G9 F11 G11 F12 G12 F13 G13 F15 G15 F16 G16 F17 G17  x.1)
end Go.Proofs
