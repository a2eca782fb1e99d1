import Derived.Test.YtnbpakmcibjmaaaB
import Derived.Test.YtnbpakmcibjmaaaGd
namespace Go.Proofs
open Go.GX
set_option linter.unusedVariables false
set_option maxRecDepth 100000

noncomputable def F16 : Unit → Bool := fun _ => true
noncomputable def G16 : Unit → Bool := fun _ => true
theorem t16 : fnT ⟨true, Try.Θ, KX Try.Θ Try.F (fun _ => none) 100 10, 100, fun _ => none⟩ Try.f16 .bool [] = some true := by kernel_rfl
theorem p16 : ∀ x, G16 x = true → PureOK Try.prog 16 (mkA [] x) ⟨.bool, F16 x⟩ := fun x _ => fnT_pure Try.tabOK (KX_ok Try.tabOK Try.FOK KOK.none (by kernel_rfl) 10) (by kernel_rfl) Try.func16 t16
noncomputable def kn7 : Kn := kOf []
theorem knOK7 : KOK Try.prog kn7 := KOK.nil
noncomputable def C7 : Cx := CxL Try.Θ kn7 (lOf [])
theorem CxOK7 : CxOK Try.prog C7 := ⟨Try.tabOK, knOK7, by kernel_rfl⟩
theorem LOK7 : LOK Try.prog C7 0 (bodyF Try.f7) := (Lall.LOK rfl (by kernel_rfl) trivial)
noncomputable def E7 : ((Int × KDo0) × Unit) → Option ((Int × Unit) × KDo1) := fun z => S7   z.1
noncomputable def F7 : ((Int × KDo0) × Unit) → (Int × Unit) := fun z => ((E7 z).getD (dflt KTo6, ODo0.dflt)).1
noncomputable def H7 : ((Int × KDo0) × Unit) → KDo1 := fun z => ((E7 z).getD (dflt KTo6, ODo0.dflt)).2
noncomputable def G7 : ((Int × KDo0) × Unit) → Bool := fun z => (E7 z).isSome
theorem n7 : ∀ z, G7 z = true → NewOK Try.prog 7 1 ODo0 3 (mkA [KTo5] z) KTo6 (F7 z) (H7 z) :=
  NewOK.ofS (i0 := 1) (D := ODo0) (n1 := 3) (ts := [KTo5]) (T := KTo6) (S := E7) CxOK7 Try.func7 (LOK.fn LOK7) (by kernel_rfl) (fun z => t7   z.1)
theorem sm7_ok : SmOK Try.prog 7 (smN ODo0 3 [KTo5] KTo6 F7 H7 G7) := SmOK.smN (i0 := 1) (D := ODo0) (n1 := 3) (ts := [KTo5]) (T := KTo6) (v := F7) (d := H7) (k := G7) (by kernel_rfl) (by kernel_rfl) (by decide) (by decide) n7
noncomputable def kn7n : Kn := kOf []
theorem knOK7n : KOK Try.prog kn7n := KOK.nil
noncomputable def C7n : Cx := CxL Try.Θ kn7n (lOf [])
theorem CxOK7n : CxOK Try.prog C7n := ⟨Try.tabOK, knOK7n, by kernel_rfl⟩
theorem LOK7n : LOK Try.prog C7n 0 (bodyF Try.f7) := (Lall.LOK rfl (by kernel_rfl) trivial)
noncomputable def E7n : ((Int × KDo0) × Unit) → Option (Int × Unit) := fun z => S7n   z.1
noncomputable def F7n : ((Int × KDo0) × Unit) → (Int × Unit) := fun z => (E7n z).getD (dflt KTo6)
noncomputable def G7n : ((Int × KDo0) × Unit) → Bool := fun z => (E7n z).isSome
theorem sm7n_ok : SmOK Try.prog 7 (smNil [KTo5] KTo6 F7n G7n) := SmOK.smNil (ts := [KTo5]) (T := KTo6) (S := E7n) CxOK7n Try.func7 (LOK.fn LOK7n) (fun z => t7n   z.1)
noncomputable def kn17 : Kn := kOf []
theorem knOK17 : KOK Try.prog kn17 := KOK.nil
noncomputable def C17 : Cx := CxL Try.Θ kn17 (lOf [])
theorem CxOK17 : CxOK Try.prog C17 := ⟨Try.tabOK, knOK17, by kernel_rfl⟩
theorem LOK17 : LOK Try.prog C17 0 (bodyF Try.f17) := (Lall.LOK rfl (by kernel_rfl) trivial)
noncomputable def E17 : ((Int × KDo0) × Unit) → Option Bool := fun x => S17   x.1
noncomputable def F17 : ((Int × KDo0) × Unit) → Bool := fun x => (E17 x).getD (dflt .bool)
noncomputable def G17 : ((Int × KDo0) × Unit) → Bool := fun x => (E17 x).isSome
theorem p17 : ∀ x, G17 x = true → PureOK Try.prog 17 (mkA [KTo5] x) ⟨.bool, F17 x⟩ :=
  PureOK.ofS (ts := [KTo5]) (T := .bool) (S := E17) CxOK17 Try.func17 (LOK.fn LOK17) (fun x => t17   x.1)
noncomputable def kn8 : Kn := kOf [(17, sm [KTo5] .bool F17 G17)]
theorem knOK8 : KOK Try.prog kn8 := (KOK.cons Try.call17 (SmOK.sm p17) KOK.nil)
noncomputable def C8 : Cx := CxL Try.Θ kn8 (lOf [])
theorem CxOK8 : CxOK Try.prog C8 := ⟨Try.tabOK, knOK8, by kernel_rfl⟩
theorem LOK8 : LOK Try.prog C8 0 (bodyF Try.f8) := (Lall.LOK rfl (by kernel_rfl) trivial)
noncomputable def E8 : ((Int × KDo0) × Unit) → Option ((Int × Unit) × KDo7) := fun z => S8 F17 G17  z.1
noncomputable def F8 : ((Int × KDo0) × Unit) → (Int × Unit) := fun z => ((E8 z).getD (dflt KTo6, ODo1.dflt)).1
noncomputable def H8 : ((Int × KDo0) × Unit) → KDo7 := fun z => ((E8 z).getD (dflt KTo6, ODo1.dflt)).2
noncomputable def G8 : ((Int × KDo0) × Unit) → Bool := fun z => (E8 z).isSome
theorem n8 : ∀ z, G8 z = true → NewOK Try.prog 8 1 ODo1 3 (mkA [KTo5] z) KTo6 (F8 z) (H8 z) :=
  NewOK.ofS (i0 := 1) (D := ODo1) (n1 := 3) (ts := [KTo5]) (T := KTo6) (S := E8) CxOK8 Try.func8 (LOK.fn LOK8) (by kernel_rfl) (fun z => t8 F17 G17  z.1)
theorem sm8_ok : SmOK Try.prog 8 (smN ODo1 3 [KTo5] KTo6 F8 H8 G8) := SmOK.smN (i0 := 1) (D := ODo1) (n1 := 3) (ts := [KTo5]) (T := KTo6) (v := F8) (d := H8) (k := G8) (by kernel_rfl) (by kernel_rfl) (by decide) (by decide) n8
noncomputable def kn8n : Kn := kOf [(17, sm [KTo5] .bool F17 G17)]
theorem knOK8n : KOK Try.prog kn8n := (KOK.cons Try.call17 (SmOK.sm p17) KOK.nil)
noncomputable def C8n : Cx := CxL Try.Θ kn8n (lOf [])
theorem CxOK8n : CxOK Try.prog C8n := ⟨Try.tabOK, knOK8n, by kernel_rfl⟩
theorem LOK8n : LOK Try.prog C8n 0 (bodyF Try.f8) := (Lall.LOK rfl (by kernel_rfl) trivial)
noncomputable def E8n : ((Int × KDo0) × Unit) → Option (Int × Unit) := fun z => S8n F17 G17  z.1
noncomputable def F8n : ((Int × KDo0) × Unit) → (Int × Unit) := fun z => (E8n z).getD (dflt KTo6)
noncomputable def G8n : ((Int × KDo0) × Unit) → Bool := fun z => (E8n z).isSome
theorem sm8n_ok : SmOK Try.prog 8 (smNil [KTo5] KTo6 F8n G8n) := SmOK.smNil (ts := [KTo5]) (T := KTo6) (S := E8n) CxOK8n Try.func8 (LOK.fn LOK8n) (fun z => t8n F17 G17  z.1)
noncomputable def kn18 : Kn := kOf []
theorem knOK18 : KOK Try.prog kn18 := KOK.nil
noncomputable def C18 : Cx := CxL Try.Θ kn18 (lOf [])
theorem CxOK18 : CxOK Try.prog C18 := ⟨Try.tabOK, knOK18, by kernel_rfl⟩
theorem LOK18 : LOK Try.prog C18 1 (bodyF Try.f18) := LOK.void (fun _ => rfl)
noncomputable def E18 : KDo8 → (Int × Unit) → Option ((List UInt8) × KDo8) := fun x z => S18   x z.1
noncomputable def F18 : KDo8 → (Int × Unit) → (List UInt8) := fun x z => ((E18 x z).getD (dflt .str, ODo2.dflt)).1
noncomputable def H18 : KDo8 → (Int × Unit) → KDo8 := fun x z => ((E18 x z).getD (dflt .str, ODo2.dflt)).2
noncomputable def G18 : KDo8 → (Int × Unit) → Bool := fun x z => (E18 x z).isSome
theorem o18 : ∀ x z, G18 x z = true → ObjOK Try.prog 18 ODo2 [0, 1] 2 (mkA [(.int .i64)] z) x ⟨.str, F18 x z⟩ (H18 x z) :=
  ObjOK.ofS (D := ODo2) (rp := [0, 1]) (n1 := 2) (ts := [(.int .i64)]) (T := .str) (S := E18) CxOK18 Try.func18 (LOK.fn LOK18) (by kernel_rfl) (fun x z => t18   x z.1)
theorem sm18_ok : SmOK Try.prog 18 (smO ODo2 [0, 1] 2 [(.int .i64)] .str F18 H18 G18) := SmOK.smO (D := ODo2) (rp := [0, 1]) (n1 := 2) (ts := [(.int .i64)]) (T := .str) (v := F18) (d := H18) (k := G18) (by kernel_rfl) (by kernel_rfl) (by kernel_rfl) (by decide) (by decide) (by kernel_rfl) o18
noncomputable def kn19 : Kn := kOf []
theorem knOK19 : KOK Try.prog kn19 := KOK.nil
noncomputable def C19 : Cx := CxL Try.Θ kn19 (lOf [])
theorem CxOK19 : CxOK Try.prog C19 := ⟨Try.tabOK, knOK19, by kernel_rfl⟩
theorem LOK19 : LOK Try.prog C19 1 (bodyF Try.f19) := LOK.void (fun _ => rfl)
noncomputable def E19 : KDo8 → ((List UInt8) × Unit) → Option (Unit × KDo8) := fun x z => S19   x z.1
noncomputable def F19 : KDo8 → ((List UInt8) × Unit) → Unit := fun x z => ((E19 x z).getD (dflt .tnil, ODo2.dflt)).1
noncomputable def H19 : KDo8 → ((List UInt8) × Unit) → KDo8 := fun x z => ((E19 x z).getD (dflt .tnil, ODo2.dflt)).2
noncomputable def G19 : KDo8 → ((List UInt8) × Unit) → Bool := fun x z => (E19 x z).isSome
theorem o19 : ∀ x z, G19 x z = true → ObjOK Try.prog 19 ODo2 [0, 1] 2 (mkA [.str] z) x ⟨.tnil, F19 x z⟩ (H19 x z) :=
  ObjOK.ofS (D := ODo2) (rp := [0, 1]) (n1 := 2) (ts := [.str]) (T := .tnil) (S := E19) CxOK19 Try.func19 (LOK.fn LOK19) (by kernel_rfl) (fun x z => t19   x z.1)
theorem sm19_ok : SmOK Try.prog 19 (smO ODo2 [0, 1] 2 [.str] .tnil F19 H19 G19) := SmOK.smO (D := ODo2) (rp := [0, 1]) (n1 := 2) (ts := [.str]) (T := .tnil) (v := F19) (d := H19) (k := G19) (by kernel_rfl) (by kernel_rfl) (by kernel_rfl) (by decide) (by decide) (by kernel_rfl) o19
noncomputable def kn9 : Kn := kOf [(18, smO ODo2 [0, 1] 2 [(.int .i64)] .str F18 H18 G18), (19, smO ODo2 [0, 1] 2 [.str] .tnil F19 H19 G19)]
theorem knOK9 : KOK Try.prog kn9 := (KOK.cons Try.call18 sm18_ok (KOK.cons Try.call19 sm19_ok KOK.nil))
noncomputable def C9 : Cx := CxL Try.Θ kn9 (lOf [])
theorem CxOK9 : CxOK Try.prog C9 := ⟨Try.tabOK, knOK9, by kernel_rfl⟩
theorem LOK9 : LOK Try.prog C9 1 (bodyF Try.f9) := LOK.void (fun _ => rfl)
noncomputable def E9 : KDo8 → ((List UInt8) × Int × Unit) → Option (Int × KDo8) := fun x z => S9 F18 H18 G18 F19 H19 G19  x z.1 z.2.1
noncomputable def F9 : KDo8 → ((List UInt8) × Int × Unit) → Int := fun x z => ((E9 x z).getD (dflt (.int .i64), ODo2.dflt)).1
noncomputable def H9 : KDo8 → ((List UInt8) × Int × Unit) → KDo8 := fun x z => ((E9 x z).getD (dflt (.int .i64), ODo2.dflt)).2
noncomputable def G9 : KDo8 → ((List UInt8) × Int × Unit) → Bool := fun x z => (E9 x z).isSome
theorem o9 : ∀ x z, G9 x z = true → ObjOK Try.prog 9 ODo2 [0] 2 (mkA [.str, (.int .i64)] z) x ⟨(.int .i64), F9 x z⟩ (H9 x z) :=
  ObjOK.ofS (D := ODo2) (rp := [0]) (n1 := 2) (ts := [.str, (.int .i64)]) (T := (.int .i64)) (S := E9) CxOK9 Try.func9 (LOK.fn LOK9) (by kernel_rfl) (fun x z => t9 F18 H18 G18 F19 H19 G19  x z.1 z.2.1)
theorem sm9_ok : SmOK Try.prog 9 (smO ODo2 [0] 2 [.str, (.int .i64)] (.int .i64) F9 H9 G9) := SmOK.smO (D := ODo2) (rp := [0]) (n1 := 2) (ts := [.str, (.int .i64)]) (T := (.int .i64)) (v := F9) (d := H9) (k := G9) (by kernel_rfl) (by kernel_rfl) (by kernel_rfl) (by decide) (by decide) (by kernel_rfl) o9
noncomputable def kn10 : Kn := kOf []
theorem knOK10 : KOK Try.prog kn10 := KOK.nil
noncomputable def C10 : Cx := CxL Try.Θ kn10 (lOf [])
theorem CxOK10 : CxOK Try.prog C10 := ⟨Try.tabOK, knOK10, by kernel_rfl⟩
theorem LOK10 : LOK Try.prog C10 1 (bodyF Try.f10) := LOK.void (fun _ => rfl)
noncomputable def E10 : KDo9 → ((List UInt8) × Int × Unit) → Option (Int × KDo9) := fun x z => S10   x z.1 z.2.1
noncomputable def F10 : KDo9 → ((List UInt8) × Int × Unit) → Int := fun x z => ((E10 x z).getD (dflt (.int .i64), ODo3.dflt)).1
noncomputable def H10 : KDo9 → ((List UInt8) × Int × Unit) → KDo9 := fun x z => ((E10 x z).getD (dflt (.int .i64), ODo3.dflt)).2
noncomputable def G10 : KDo9 → ((List UInt8) × Int × Unit) → Bool := fun x z => (E10 x z).isSome
theorem o10 : ∀ x z, G10 x z = true → ObjOK Try.prog 10 ODo3 [0] 2 (mkA [.str, (.int .i64)] z) x ⟨(.int .i64), F10 x z⟩ (H10 x z) :=
  ObjOK.ofS (D := ODo3) (rp := [0]) (n1 := 2) (ts := [.str, (.int .i64)]) (T := (.int .i64)) (S := E10) CxOK10 Try.func10 (LOK.fn LOK10) (by kernel_rfl) (fun x z => t10   x z.1 z.2.1)
theorem sm10_ok : SmOK Try.prog 10 (smO ODo3 [0] 2 [.str, (.int .i64)] (.int .i64) F10 H10 G10) := SmOK.smO (D := ODo3) (rp := [0]) (n1 := 2) (ts := [.str, (.int .i64)]) (T := (.int .i64)) (v := F10) (d := H10) (k := G10) (by kernel_rfl) (by kernel_rfl) (by kernel_rfl) (by decide) (by decide) (by kernel_rfl) o10
noncomputable def kn20 : Kn := kOf []
theorem knOK20 : KOK Try.prog kn20 := KOK.nil
noncomputable def C20 : Cx := CxL Try.Θ kn20 (lOf [])
theorem CxOK20 : CxOK Try.prog C20 := ⟨Try.tabOK, knOK20, by kernel_rfl⟩
theorem LOK20 : LOK Try.prog C20 0 (bodyF Try.f20) := (Lall.LOK rfl (by kernel_rfl) trivial)
noncomputable def E20 : KDo8 → (Bool × Unit) → Option Int := fun x z => S20   x z.1
noncomputable def F20 : KDo8 → (Bool × Unit) → Int := fun x z => (E20 x z).getD (dflt (.int .i64))
noncomputable def G20 : KDo8 → (Bool × Unit) → Bool := fun x z => (E20 x z).isSome
theorem sm20_ok : SmOK Try.prog 20 (smR ODo2 [0, 1] [.bool] (.int .i64) F20 G20) :=
  SmOK.ofR (D := ODo2) (rp := [0, 1]) (n1 := 2) (ts := [.bool]) (T := (.int .i64)) (S := E20) CxOK20 Try.func20 (LOK.fn LOK20) (by kernel_rfl) (by kernel_rfl) (by decide) (by decide) (by kernel_rfl) (fun x z => t20   x z.1)
noncomputable def kn13 : Kn := kOf [(20, smR ODo2 [0, 1] [.bool] (.int .i64) F20 G20)]
theorem knOK13 : KOK Try.prog kn13 := (KOK.cons Try.call20 sm20_ok KOK.nil)
noncomputable def C13 : Cx := CxL Try.Θ kn13 (lOf [])
theorem CxOK13 : CxOK Try.prog C13 := ⟨Try.tabOK, knOK13, by kernel_rfl⟩
theorem LOK13 : LOK Try.prog C13 0 (bodyF Try.f13) := (Lall.LOK rfl (by kernel_rfl) trivial)
noncomputable def E13 : KDo8 → (Unit) → Option KDo10 := fun x z => S13 F20 G20  x 
noncomputable def F13 : KDo8 → (Unit) → KDo10 := fun x z => (E13 x z).getD (dflt (.tup .str KTo6))
noncomputable def G13 : KDo8 → (Unit) → Bool := fun x z => (E13 x z).isSome
theorem sm13_ok : SmOK Try.prog 13 (smR ODo2 [0] [] (.tup .str KTo6) F13 G13) :=
  SmOK.ofR (D := ODo2) (rp := [0]) (n1 := 2) (ts := []) (T := (.tup .str KTo6)) (S := E13) CxOK13 Try.func13 (LOK.fn LOK13) (by kernel_rfl) (by kernel_rfl) (by decide) (by decide) (by kernel_rfl) (fun x z => t13 F20 G20  x )
noncomputable def kn11 : Kn := kOf [(13, smR ODo2 [0] [] (.tup .str KTo6) F13 G13), (18, smO ODo2 [0, 1] 2 [(.int .i64)] .str F18 H18 G18), (20, smR ODo2 [0, 1] [.bool] (.int .i64) F20 G20)]
theorem knOK11 : KOK Try.prog kn11 := (KOK.cons Try.call13 sm13_ok (KOK.cons Try.call18 sm18_ok (KOK.cons Try.call20 sm20_ok KOK.nil)))
noncomputable def C11 : Cx := CxL Try.Θ kn11 (lOf [])
theorem CxOK11 : CxOK Try.prog C11 := ⟨Try.tabOK, knOK11, by kernel_rfl⟩
theorem LOK11 : LOK Try.prog C11 1 (bodyF Try.f11) := LOK.void (fun _ => rfl)
noncomputable def E11 : KDo8 → (Unit) → Option (KDo10 × KDo8) := fun x z => S11 F13 G13 F18 H18 G18 F20 G20  x 
noncomputable def F11 : KDo8 → (Unit) → KDo10 := fun x z => ((E11 x z).getD (dflt (.tup .str KTo6), ODo2.dflt)).1
noncomputable def H11 : KDo8 → (Unit) → KDo8 := fun x z => ((E11 x z).getD (dflt (.tup .str KTo6), ODo2.dflt)).2
noncomputable def G11 : KDo8 → (Unit) → Bool := fun x z => (E11 x z).isSome
theorem o11 : ∀ x z, G11 x z = true → ObjOK Try.prog 11 ODo2 [0] 2 (mkA [] z) x ⟨(.tup .str KTo6), F11 x z⟩ (H11 x z) :=
  ObjOK.ofS (D := ODo2) (rp := [0]) (n1 := 2) (ts := []) (T := (.tup .str KTo6)) (S := E11) CxOK11 Try.func11 (LOK.fn LOK11) (by kernel_rfl) (fun x z => t11 F13 G13 F18 H18 G18 F20 G20  x )
theorem sm11_ok : SmOK Try.prog 11 (smO ODo2 [0] 2 [] (.tup .str KTo6) F11 H11 G11) := SmOK.smO (D := ODo2) (rp := [0]) (n1 := 2) (ts := []) (T := (.tup .str KTo6)) (v := F11) (d := H11) (k := G11) (by kernel_rfl) (by kernel_rfl) (by kernel_rfl) (by decide) (by decide) (by kernel_rfl) o11
noncomputable def kn21 : Kn := kOf []
theorem knOK21 : KOK Try.prog kn21 := KOK.nil
noncomputable def C21 : Cx := CxL Try.Θ kn21 (lOf [])
theorem CxOK21 : CxOK Try.prog C21 := ⟨Try.tabOK, knOK21, by kernel_rfl⟩
theorem LOK21 : LOK Try.prog C21 0 (bodyF Try.f21) := (Lall.LOK rfl (by kernel_rfl) trivial)
noncomputable def E21 : KDo9 → (Unit) → Option Int := fun x z => S21   x 
noncomputable def F21 : KDo9 → (Unit) → Int := fun x z => (E21 x z).getD (dflt (.int .i64))
noncomputable def G21 : KDo9 → (Unit) → Bool := fun x z => (E21 x z).isSome
theorem sm21_ok : SmOK Try.prog 21 (smR ODo3 [0] [] (.int .i64) F21 G21) :=
  SmOK.ofR (D := ODo3) (rp := [0]) (n1 := 2) (ts := []) (T := (.int .i64)) (S := E21) CxOK21 Try.func21 (LOK.fn LOK21) (by kernel_rfl) (by kernel_rfl) (by decide) (by decide) (by kernel_rfl) (fun x z => t21   x )
noncomputable def kn14 : Kn := kOf [(21, smR ODo3 [0] [] (.int .i64) F21 G21)]
theorem knOK14 : KOK Try.prog kn14 := (KOK.cons Try.call21 sm21_ok KOK.nil)
noncomputable def C14 : Cx := CxL Try.Θ kn14 (lOf [])
theorem CxOK14 : CxOK Try.prog C14 := ⟨Try.tabOK, knOK14, by kernel_rfl⟩
theorem LOK14 : LOK Try.prog C14 0 (bodyF Try.f14) := (Lall.LOK rfl (by kernel_rfl) trivial)
noncomputable def E14 : KDo9 → (Unit) → Option KDo10 := fun x z => S14 F21 G21  x 
noncomputable def F14 : KDo9 → (Unit) → KDo10 := fun x z => (E14 x z).getD (dflt (.tup .str KTo6))
noncomputable def G14 : KDo9 → (Unit) → Bool := fun x z => (E14 x z).isSome
theorem sm14_ok : SmOK Try.prog 14 (smR ODo3 [0] [] (.tup .str KTo6) F14 G14) :=
  SmOK.ofR (D := ODo3) (rp := [0]) (n1 := 2) (ts := []) (T := (.tup .str KTo6)) (S := E14) CxOK14 Try.func14 (LOK.fn LOK14) (by kernel_rfl) (by kernel_rfl) (by decide) (by decide) (by kernel_rfl) (fun x z => t14 F21 G21  x )
noncomputable def kn12 : Kn := kOf [(14, smR ODo3 [0] [] (.tup .str KTo6) F14 G14), (21, smR ODo3 [0] [] (.int .i64) F21 G21)]
theorem knOK12 : KOK Try.prog kn12 := (KOK.cons Try.call14 sm14_ok (KOK.cons Try.call21 sm21_ok KOK.nil))
noncomputable def C12 : Cx := CxL Try.Θ kn12 (lOf [])
theorem CxOK12 : CxOK Try.prog C12 := ⟨Try.tabOK, knOK12, by kernel_rfl⟩
theorem LOK12 : LOK Try.prog C12 1 (bodyF Try.f12) := LOK.void (fun _ => rfl)
noncomputable def E12 : KDo9 → (Unit) → Option (KDo10 × KDo9) := fun x z => S12 F14 G14 F21 G21  x 
noncomputable def F12 : KDo9 → (Unit) → KDo10 := fun x z => ((E12 x z).getD (dflt (.tup .str KTo6), ODo3.dflt)).1
noncomputable def H12 : KDo9 → (Unit) → KDo9 := fun x z => ((E12 x z).getD (dflt (.tup .str KTo6), ODo3.dflt)).2
noncomputable def G12 : KDo9 → (Unit) → Bool := fun x z => (E12 x z).isSome
theorem o12 : ∀ x z, G12 x z = true → ObjOK Try.prog 12 ODo3 [0] 2 (mkA [] z) x ⟨(.tup .str KTo6), F12 x z⟩ (H12 x z) :=
  ObjOK.ofS (D := ODo3) (rp := [0]) (n1 := 2) (ts := []) (T := (.tup .str KTo6)) (S := E12) CxOK12 Try.func12 (LOK.fn LOK12) (by kernel_rfl) (fun x z => t12 F14 G14 F21 G21  x )
theorem sm12_ok : SmOK Try.prog 12 (smO ODo3 [0] 2 [] (.tup .str KTo6) F12 H12 G12) := SmOK.smO (D := ODo3) (rp := [0]) (n1 := 2) (ts := []) (T := (.tup .str KTo6)) (v := F12) (d := H12) (k := G12) (by kernel_rfl) (by kernel_rfl) (by kernel_rfl) (by decide) (by decide) (by kernel_rfl) o12
noncomputable def kn15 : Kn := kOf []
theorem knOK15 : KOK Try.prog kn15 := KOK.nil
noncomputable def C15 : Cx := CxL Try.Θ kn15 (lOf [])
theorem CxOK15 : CxOK Try.prog C15 := ⟨Try.tabOK, knOK15, by kernel_rfl⟩
theorem LOK15 : LOK Try.prog C15 0 (bodyF Try.f15) := (Lall.LOK rfl (by kernel_rfl) trivial)
noncomputable def E15 : KDo8 → (Unit) → Option Int := fun x z => S15   x 
noncomputable def F15 : KDo8 → (Unit) → Int := fun x z => (E15 x z).getD (dflt (.int .i64))
noncomputable def G15 : KDo8 → (Unit) → Bool := fun x z => (E15 x z).isSome
theorem sm15_ok : SmOK Try.prog 15 (smR ODo2 [0] [] (.int .i64) F15 G15) :=
  SmOK.ofR (D := ODo2) (rp := [0]) (n1 := 2) (ts := []) (T := (.int .i64)) (S := E15) CxOK15 Try.func15 (LOK.fn LOK15) (by kernel_rfl) (by kernel_rfl) (by decide) (by decide) (by kernel_rfl) (fun x z => t15   x )
noncomputable def kn3n : Kn := kOf [(7, smNil [KTo5] KTo6 F7n G7n), (8, smNil [KTo5] KTo6 F8n G8n), (16, sm [] .bool F16 G16)]
theorem knOK3n : KOK Try.prog kn3n := (KOK.cons Try.call7 sm7n_ok (KOK.cons Try.call8 sm8n_ok (KOK.cons Try.call16 (SmOK.sm p16) KOK.nil)))
noncomputable def V3n_0 : ((List (Int × KDo13)) × Unit × Unit × Int × Unit) → Option (((List (Int × KDo13)) × Unit × Unit × Int × Unit) ⊕ (Unit)) := fun x => R3n_0 F7n G7n F8n G8n F16 G16 (fun _ => (())) (fun _ => false) x.1 x.2.1 x.2.2.1 x.2.2.2.1
noncomputable def W3n_0 : ((List (Int × KDo13)) × Unit × Unit × Int × Unit) → (Unit) := whV (hd := hd3n_0) (ys := ys3n_0) V3n_0
noncomputable def Q3n_0 : ((List (Int × KDo13)) × Unit × Unit × Int × Unit) → Bool := whK (hd := hd3n_0) (ys := ys3n_0) V3n_0
noncomputable def C3n : Cx := CxL Try.Θ kn3n (lOf [(0, orc 122 25 0 hd3n_0 ys3n_0 W3n_0 Q3n_0), (2000010, fun _ => [])])
theorem CxOK3n : CxOK Try.prog C3n := ⟨Try.tabOK, knOK3n, by kernel_rfl⟩
theorem l3n_0 : Lone Try.prog C3n 0 (.loop (loopB 0 (bodyF Try.f3))) (orc 122 25 0 hd3n_0 ys3n_0 W3n_0 Q3n_0) :=
  Lone.of CxOK3n (Lall.LOK rfl (by kernel_rfl) (Lall.skip (by kernel_rfl) (Lall.skip (by kernel_rfl) trivial))) (by kernel_rfl) (fun x => (r3n_0 F7n G7n F8n G8n F16 G16 W3n_0 Q3n_0 x.1 x.2.1 x.2.2.1 x.2.2.2.1).trans (by rfl))
theorem LOK3n : LOK Try.prog C3n 0 (bodyF Try.f3) := (Lall.LOK rfl (by kernel_rfl) (Lall.cons (by kernel_rfl) l3n_0 (Lall.skip (by kernel_rfl) trivial)))
noncomputable def E3n : ((Int × KDo0) × (List (Int × KDo13)) × Unit) → Option Bool := fun x => S3n F7n G7n F8n G8n F16 G16 W3n_0 Q3n_0 x.1 x.2.1
noncomputable def F3n : ((Int × KDo0) × (List (Int × KDo13)) × Unit) → Bool := fun x => (E3n x).getD (dflt .bool)
noncomputable def G3n : ((Int × KDo0) × (List (Int × KDo13)) × Unit) → Bool := fun x => (E3n x).isSome
theorem p3n : ∀ x, G3n x = true → PureOK Try.prog 3 (mkA [KTo5, (.vsl KTo12)] x) ⟨.bool, F3n x⟩ :=
  PureOK.ofS (ts := [KTo5, (.vsl KTo12)]) (T := .bool) (S := E3n) CxOK3n Try.func3 (LOK.fn LOK3n) (fun x => t3n F7n G7n F8n G8n F16 G16 W3n_0 Q3n_0 x.1 x.2.1)
noncomputable def kn3 : Kn := kOf [(7, smN ODo0 3 [KTo5] KTo6 F7 H7 G7), (8, smN ODo1 3 [KTo5] KTo6 F8 H8 G8), (9, smO ODo2 [0] 2 [.str, (.int .i64)] (.int .i64) F9 H9 G9), (10, smO ODo3 [0] 2 [.str, (.int .i64)] (.int .i64) F10 H10 G10), (11, smO ODo2 [0] 2 [] (.tup .str KTo6) F11 H11 G11), (12, smO ODo3 [0] 2 [] (.tup .str KTo6) F12 H12 G12), (13, smR ODo2 [0] [] (.tup .str KTo6) F13 G13), (14, smR ODo3 [0] [] (.tup .str KTo6) F14 G14), (15, smR ODo2 [0] [] (.int .i64) F15 G15), (16, sm [] .bool F16 G16)]
theorem knOK3 : KOK Try.prog kn3 := (KOK.cons Try.call7 sm7_ok (KOK.cons Try.call8 sm8_ok (KOK.cons Try.call9 sm9_ok (KOK.cons Try.call10 sm10_ok (KOK.cons Try.call11 sm11_ok (KOK.cons Try.call12 sm12_ok (KOK.cons Try.call13 sm13_ok (KOK.cons Try.call14 sm14_ok (KOK.cons Try.call15 sm15_ok (KOK.cons Try.call16 (SmOK.sm p16) KOK.nil))))))))))
noncomputable def V3_0 : ((List (Int × KDo13)) × Unit × Unit × Int × KDo14 × KDo15 × Unit) → Option (((List (Int × KDo13)) × Unit × Unit × Int × KDo14 × KDo15 × Unit) ⊕ ((Unit) ⊕ (Bool × Unit))) := fun x => R3_0 F7 H7 G7 F8 H8 G8 F9 H9 G9 F10 H10 G10 F11 H11 G11 F12 H12 G12 F13 G13 F14 G14 F15 G15 F16 G16 (fun _ => (Sum.inl (()))) (fun _ => false) x.1 x.2.1 x.2.2.1 x.2.2.2.1 x.2.2.2.2.1 x.2.2.2.2.2.1
noncomputable def W3_0 : ((List (Int × KDo13)) × Unit × Unit × Int × KDo14 × KDo15 × Unit) → ((Unit) ⊕ (Bool × Unit)) := whV (hd := hd3_0) (ys := ys3_0) V3_0
noncomputable def Q3_0 : ((List (Int × KDo13)) × Unit × Unit × Int × KDo14 × KDo15 × Unit) → Bool := whK (hd := hd3_0) (ys := ys3_0) V3_0
noncomputable def C3 : Cx := CxL Try.Θ kn3 (lOf [(0, orc 122 31 0 hd3_0 ys3_0 W3_0 Q3_0), (2000010, fun _ => [])])
theorem CxOK3 : CxOK Try.prog C3 := ⟨Try.tabOK, knOK3, by kernel_rfl⟩
theorem l3_0 : Lone Try.prog C3 0 (.loop (loopB 0 (bodyF Try.f3))) (orc 122 31 0 hd3_0 ys3_0 W3_0 Q3_0) :=
  Lone.of CxOK3 (Lall.LOK rfl (by kernel_rfl) (Lall.skip (by kernel_rfl) (Lall.skip (by kernel_rfl) trivial))) (by kernel_rfl) (fun x => (r3_0 F7 H7 G7 F8 H8 G8 F9 H9 G9 F10 H10 G10 F11 H11 G11 F12 H12 G12 F13 G13 F14 G14 F15 G15 F16 G16 W3_0 Q3_0 x.1 x.2.1 x.2.2.1 x.2.2.2.1 x.2.2.2.2.1 x.2.2.2.2.2.1).trans (by rfl))
theorem LOK3 : LOK Try.prog C3 0 (bodyF Try.f3) := (Lall.LOK rfl (by kernel_rfl) (Lall.cons (by kernel_rfl) l3_0 (Lall.skip (by kernel_rfl) trivial)))
noncomputable def E3 : ((Int × KDo0) × (List (Int × KDo13)) × Unit) → Option Bool := fun x => S3 F7 H7 G7 F8 H8 G8 F9 H9 G9 F10 H10 G10 F11 H11 G11 F12 H12 G12 F13 G13 F14 G14 F15 G15 F16 G16 W3_0 Q3_0 x.1 x.2.1
noncomputable def F3 : ((Int × KDo0) × (List (Int × KDo13)) × Unit) → Bool := fun x => (E3 x).getD (dflt .bool)
noncomputable def G3 : ((Int × KDo0) × (List (Int × KDo13)) × Unit) → Bool := fun x => (E3 x).isSome
theorem p3 : ∀ x, G3 x = true → PureOK Try.prog 3 (mkA [KTo5, (.vsl KTo12)] x) ⟨.bool, F3 x⟩ :=
  PureOK.ofS (ts := [KTo5, (.vsl KTo12)]) (T := .bool) (S := E3) CxOK3 Try.func3 (LOK.fn LOK3) (fun x => t3 F7 H7 G7 F8 H8 G8 F9 H9 G9 F10 H10 G10 F11 H11 G11 F12 H12 G12 F13 G13 F14 G14 F15 G15 F16 G16 W3_0 Q3_0 x.1 x.2.1)
end Go.Proofs
