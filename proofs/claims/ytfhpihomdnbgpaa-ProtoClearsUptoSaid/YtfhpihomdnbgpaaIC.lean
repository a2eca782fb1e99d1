import Derived.Test.YtfhpihomdnbgpaaR
import Derived.Test.YtfhpihomdnbgpaaGd
namespace Go.Proofs.Po
open Go.GX
set_option linter.unusedVariables false
set_option maxRecDepth 100000
@[reducible] def KTc25 : Ty := (.pair (.vsl (.int .i64)) KTc2)
@[reducible] def KTc26 : Ty := (.pair (.int .i64) KTc25)
@[reducible] def KTc27 : Ty := (.pair (.arr 64 KTc8) KTc26)
@[reducible] def KTc28 : Ty := (.pair (.arr 11 KTc6) KTc27)
@[reducible] def KTc31 : Ty := (.tup (.int .i64) .tnil)
noncomputable def kn36g : Kn := kOf []
theorem knOK36g : KOK Tryo.prog kn36g := KOK.nil
noncomputable def C36g : Cx := CxL Tryo.Θ kn36g (lOf [])
theorem CxOK36g : CxOK Tryo.prog C36g := ⟨Tryo.tabOK, knOK36g, by kernel_rfl, POK.none⟩
theorem LOK36g : LOK Tryo.prog C36g 2 (bodyF Tryo.f36) := LOK.void (fun _ => rfl)
noncomputable def E36g : Yc0 → Option (KDc12 × Bool) := fun x => S36g   x.1 x.2.1
noncomputable def G36g : Yc0 → Bool := fun x => (E36g x).isSome
noncomputable def F36g : Yc0 → (KDc12 × Bool) := fun x => (E36g x).getD (Dk.dflt ODc0, dflt .bool)
theorem sm36g_ok : SmOK Tryo.prog 36 (smG2 [.mv ODc4, .mv ODc5] ODc0 .bool 2 F36g G36g) := SmOK.smG2 (n1 := 2) (by kernel_rfl) (GOK2.ofS (pts := [.mv ODc4, .mv ODc5]) (n1 := 2) (D := ODc0) (t := .bool) (n2 := 2) (S := E36g) CxOK36g Tryo.func36 (LOK.fn LOK36g) (by kernel_rfl) (fun x => t36g   x.1 x.2.1))
noncomputable def kn16g : Kn := kOf [(36, smG2 [.mv ODc4, .mv ODc5] ODc0 .bool 2 F36g G36g)]
theorem knOK16g : KOK Tryo.prog kn16g := (KOK.cons Tryo.call36 sm36g_ok KOK.nil)
noncomputable def C16g : Cx := CxL Tryo.Θ kn16g (lOf [])
theorem CxOK16g : CxOK Tryo.prog C16g := ⟨Tryo.tabOK, knOK16g, by kernel_rfl, POK.none⟩
theorem LOK16g : LOK Tryo.prog C16g 0 (bodyF Tryo.f16) := (Lall.LOK rfl (by kernel_rfl) trivial)
noncomputable def E16g : (Int × Unit) → Option (KDc12 × Bool) := fun x => S16g F36g G36g  x.1
noncomputable def G16g : (Int × Unit) → Bool := fun x => (E16g x).isSome
noncomputable def F16g : (Int × Unit) → (KDc12 × Bool) := fun x => (E16g x).getD (Dk.dflt ODc0, dflt .bool)
theorem sm16g_ok : SmOK Tryo.prog 16 (smG2 [.p (.v (.int .i64))] ODc0 .bool 2 F16g G16g) := SmOK.smG2 (n1 := 0) (by kernel_rfl) (GOK2.ofS (pts := [.p (.v (.int .i64))]) (n1 := 0) (D := ODc0) (t := .bool) (n2 := 2) (S := E16g) CxOK16g Tryo.func16 (LOK.fn LOK16g) (by kernel_rfl) (fun x => t16g F36g G36g  x.1))
noncomputable def kn9g : Kn := kOf [(16, smG2 [.p (.v (.int .i64))] ODc0 .bool 2 F16g G16g), (17, smG [.bv 0 ODc6] (.v (.int .i64)) 0 F17g G17g), (18, smG [.im ODc1] ODc1 1 F18g G18g), (19, sm [] (.pair KTc1 KTc1) F19 G19), (20, sm [(.int .u64)] (.pair KTc1 KTc1) F20 G20), (21, sm [(.pair KTc1 KTc1), (.int .i64)] (.pair KTc1 KTc1) F21 G21), (24, sm [(.pair KTc1 KTc1)] KTc14 F24 G24), (25, smG [.p ODc4, .p (.v (.int .i64))] (.v .bool) 0 F25 G25)]
theorem knOK9g : KOK Tryo.prog kn9g := (KOK.cons Tryo.call16 sm16g_ok (KOK.cons Tryo.call17 sm17g_ok (KOK.cons Tryo.call18 sm18g_ok (KOK.cons Tryo.call19 (SmOK.sm p19) (KOK.cons Tryo.call20 (SmOK.sm p20) (KOK.cons Tryo.call21 (SmOK.sm p21) (KOK.cons Tryo.call24 (SmOK.sm p24) (KOK.cons Tryo.call25 (SmOK.smG (n1 := 0) (by kernel_rfl) (fun x h => GOK.ofPure (by kernel_rfl) (by kernel_rfl) (p25 x h))) KOK.nil))))))))
noncomputable def C9g : Cx := CxL Tryo.Θ kn9g (lOf [])
theorem CxOK9g : CxOK Tryo.prog C9g := ⟨Tryo.tabOK, knOK9g, by kernel_rfl, POK.none⟩
theorem LOK9g : LOK Tryo.prog C9g 1 (bodyF Tryo.f9) := LOK.void (fun _ => rfl)
noncomputable def E9g : (KDc21 × (List (Int × KDc16)) × Int × Unit) → Option (KDc21 × Int) := fun x => S9g F16g G16g F17g G17g F18g G18g F19 G19 F20 G20 F21 G21 F24 G24 F25 G25  x.1 x.2.1 x.2.2.1
noncomputable def G9g : (KDc21 × (List (Int × KDc16)) × Int × Unit) → Bool := fun x => (E9g x).isSome
noncomputable def F9g : (KDc21 × (List (Int × KDc16)) × Int × Unit) → (KDc21 × (Int × Unit)) := fun x => (((E9g x).getD (Dk.dflt ODc1, dflt (.int .i64))).1, (((E9g x).getD (Dk.dflt ODc1, dflt (.int .i64))).2, ()))
theorem p9g : ∀ x, G9g x = true → PureOK Tryo.prog 9 (mkA [KTc28, (.vsl KTc13), (.int .i64)] x) ⟨(.tup KTc28 KTc31), F9g x⟩ := PureOK.ofW2 (pts := [.im ODc1, .p (.v (.vsl KTc13)), .p (.v (.int .i64))]) (n1 := 1) (D := ODc1) (t := (.int .i64)) (S := E9g) CxOK9g Tryo.func9 (LOK.fn LOK9g) (by kernel_rfl) (fun x => t9g F16g G16g F17g G17g F18g G18g F19 G19 F20 G20 F21 G21 F24 G24 F25 G25  x.1 x.2.1 x.2.2.1)
end Go.Proofs.Po
