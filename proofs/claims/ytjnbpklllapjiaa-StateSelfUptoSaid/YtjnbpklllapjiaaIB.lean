import Derived.Test.YtjnbpklllapjiaaBB
import Derived.Test.YtjnbpklllapjiaaGe
namespace Go.Proofs
open Go.GX
set_option linter.unusedVariables false
set_option maxRecDepth 100000
@[reducible] def KTb17 : Ty := (.pair (.vsl (.int .i64)) KTb2)
@[reducible] def KTb18 : Ty := (.pair (.int .i64) KTb17)
@[reducible] def KTb19 : Ty := (.pair (.arr 64 KTb8) KTb18)
@[reducible] def KTb20 : Ty := (.pair (.arr 11 KTb6) KTb19)
@[reducible] def KDb21 : Type := ((List Int) × (Int × Unit))
@[reducible] def KDb22 : Type := (KDb11 × (KDb13 × (Int × KDb21)))
noncomputable def kn15g : Kn := kOf [(36, smG [.p ODb3] ODb3 1 F36g G36g)]
theorem knOK15g : KOK Try.prog kn15g := (KOK.cons Try.call36 sm36g_ok KOK.nil)
noncomputable def C15g : Cx := CxL Try.Θ kn15g (lOf [])
theorem CxOK15g : CxOK Try.prog C15g := ⟨Try.tabOK, knOK15g, by kernel_rfl, POK.none⟩
theorem LOK15g : LOK Try.prog C15g 1 (bodyF Try.f15) := LOK.void (fun _ => rfl)
noncomputable def E15g : (KDb14 × Unit) → Option KDb14 := fun x => S15g F36g G36g  x.1
noncomputable def F15g : (KDb14 × Unit) → KDb14 := fun x => (E15g x).getD (Dk.dflt ODb0)
noncomputable def G15g : (KDb14 × Unit) → Bool := fun x => (E15g x).isSome
theorem sm15g_ok : SmOK Try.prog 15 (smG [.im ODb0] ODb0 1 F15g G15g) := SmOK.smG (n1 := 1) (by kernel_rfl) (GOK.ofS (pts := [.im ODb0]) (n1 := 1) (D := ODb0) (n2 := 1) (S := E15g) CxOK15g Try.func15 (LOK.fn LOK15g) (by kernel_rfl) (fun x => t15g F36g G36g  x.1))
noncomputable def kn4 : Kn := kOf [(7, smG [.p ODb0] (.v .bool) 0 F7 G7), (8, sm [] .bool F8 G8), (9, smG [.p ODb0, .p ODb0] (.v .bool) 0 F9 G9), (10, smG [.p ODb0, .p ODb0] (.v .bool) 0 F10 G10), (11, smG [.p ODb0, .p ODb0] (.v .bool) 0 F11 G11), (15, smG [.im ODb0] ODb0 1 F15g G15g)]
theorem knOK4 : KOK Try.prog kn4 := (KOK.cons Try.call7 (SmOK.smG (n1 := 0) (by kernel_rfl) (fun x h => GOK.ofPure (by kernel_rfl) (by kernel_rfl) (p7 x h))) (KOK.cons Try.call8 (SmOK.sm p8) (KOK.cons Try.call9 (SmOK.smG (n1 := 0) (by kernel_rfl) (fun x h => GOK.ofPure (by kernel_rfl) (by kernel_rfl) (p9 x h))) (KOK.cons Try.call10 (SmOK.smG (n1 := 0) (by kernel_rfl) (fun x h => GOK.ofPure (by kernel_rfl) (by kernel_rfl) (p10 x h))) (KOK.cons Try.call11 (SmOK.smG (n1 := 0) (by kernel_rfl) (fun x h => GOK.ofPure (by kernel_rfl) (by kernel_rfl) (p11 x h))) (KOK.cons Try.call15 sm15g_ok KOK.nil))))))
noncomputable def V4_0 : (Unit × Unit × Int × KDb15 × KDb16 × Unit) → Option ((Unit × Unit × Int × KDb15 × KDb16 × Unit) ⊕ (Unit × Unit × KDb15 × KDb16 × Unit)) := fun x => R4_0 F7 G7 F8 G8 F9 G9 F10 G10 F11 G11 F15g G15g (fun _ => ((), (), ([], ([], (0, ([], (0, ()))))), ([], ([], (0, ([], (0, ()))))), ())) (fun _ => false) x.1 x.2.1 x.2.2.1 x.2.2.2.1 x.2.2.2.2.1
noncomputable def W4_0 : (Unit × Unit × Int × KDb15 × KDb16 × Unit) → (Unit × Unit × KDb15 × KDb16 × Unit) := whV (hd := hd4_0) (ys := ys4_0) V4_0
noncomputable def Q4_0 : (Unit × Unit × Int × KDb15 × KDb16 × Unit) → Bool := whK (hd := hd4_0) (ys := ys4_0) V4_0
noncomputable def C4 : Cx := CxL Try.Θ kn4 (lOf [(0, orc 53 28 0 hd4_0 ys4_0 W4_0 Q4_0)])
theorem CxOK4 : CxOK Try.prog C4 := ⟨Try.tabOK, knOK4, by kernel_rfl, POK.none⟩
theorem l4_0 : Lone Try.prog C4 0 (.loop (loopB 0 (bodyF Try.f4))) (orc 53 28 0 hd4_0 ys4_0 W4_0 Q4_0) 1 :=
  Lone.of CxOK4 (Lall.LOK rfl (by kernel_rfl) (Lall.skip (by kernel_rfl) trivial)) (by kernel_rfl) (fun x => (r4_0 F7 G7 F8 G8 F9 G9 F10 G10 F11 G11 F15g G15g W4_0 Q4_0 x.1 x.2.1 x.2.2.1 x.2.2.2.1 x.2.2.2.2.1).trans (by first | (delta V4_0 R4_0; with_reducible rfl) | rfl))
theorem LOK4 : LOK Try.prog C4 1 (bodyF Try.f4) := (Lall.LOK rfl (by kernel_rfl) (Lall.cons (by kernel_rfl) l4_0 trivial))
noncomputable def E4 : (KDb14 × Unit) → Option Bool := fun x => S4 F7 G7 F8 G8 F9 G9 F10 G10 F11 G11 F15g G15g W4_0 Q4_0 x.1
noncomputable def F4 : (KDb14 × Unit) → Bool := fun x => (E4 x).getD (Dk.dflt (.v .bool))
noncomputable def G4 : (KDb14 × Unit) → Bool := fun x => (E4 x).isSome
theorem p4 : ∀ x, G4 x = true → PureOK Try.prog 4 (mkA [KTb20] x) ⟨.bool, F4 x⟩ := PureOK.ofW (pts := [.im ODb0]) (n1 := 1) (D := (.v .bool)) (S := E4) CxOK4 Try.func4 (LOK.fn LOK4) (by kernel_rfl) (fun x => t4 F7 G7 F8 G8 F9 G9 F10 G10 F11 G11 F15g G15g W4_0 Q4_0 x.1)
end Go.Proofs
