import Derived.Test.YtibiflonpfehiaaBK
import Derived.Test.YtibiflonpfehiaaGc
namespace Go.Proofs
open Go.GX
set_option linter.unusedVariables false
set_option maxRecDepth 100000

noncomputable def kn10 : Kn := kOf [(22, sm [KTk4] (.int .i64) F22 G22), (23, sm [KTk4] .bool F23 G23), (24, smL [(.vsl (.int .i64)), (.int .i64)] .bool F24 G24)]
theorem knOK10 : KOK Try.prog kn10 := (KOK.cons Try.call22 (SmOK.sm p22) (KOK.cons Try.call23 (SmOK.sm p23) (KOK.cons Try.call24 (SmOK.smL p24) KOK.nil)))
noncomputable def V10_0 : (KDk6 × (List Int) × Int × Unit) → Option ((KDk6 × (List Int) × Int × Unit) ⊕ ((List Int) × Unit)) := fun x => R10_0 F22 G22 F23 G23 F24 G24 (fun _ => ([], ())) (fun _ => false) x.1 x.2.1 x.2.2.1
noncomputable def W10_0 : (KDk6 × (List Int) × Int × Unit) → ((List Int) × Unit) := whV (hd := hd10_0) (ys := ys10_0) V10_0
noncomputable def Q10_0 : (KDk6 × (List Int) × Int × Unit) → Bool := whK (hd := hd10_0) (ys := ys10_0) V10_0
noncomputable def C10 : Cx := CxL Try.Θl kn10 (lOf [(0, orc 48 24 0 hd10_0 ys10_0 W10_0 Q10_0)])
theorem CxOK10 : CxOK Try.prog C10 := ⟨Try.tabOKl, knOK10, by kernel_rfl⟩
theorem l10_0 : Lone Try.prog C10 0 (.loop (loopB 0 (bodyF Try.f10))) (orc 48 24 0 hd10_0 ys10_0 W10_0 Q10_0) :=
  Lone.of CxOK10 (Lall.LOK rfl (by kernel_rfl) (Lall.skip (by kernel_rfl) trivial)) (by kernel_rfl) (fun x => (r10_0 F22 G22 F23 G23 F24 G24 W10_0 Q10_0 x.1 x.2.1 x.2.2.1).trans (by rfl))
theorem LOK10 : LOK Try.prog C10 0 (bodyF Try.f10) := (Lall.LOK rfl (by kernel_rfl) (Lall.cons (by kernel_rfl) l10_0 trivial))
noncomputable def E10 : (KDk6 × Unit) → Option (List Int) := fun x => S10 F22 G22 F23 G23 F24 G24 W10_0 Q10_0 x.1
noncomputable def F10 : (KDk6 × Unit) → (List Int) := fun x => (E10 x).getD (dflt (.vsl (.int .i64)))
noncomputable def G10 : (KDk6 × Unit) → Bool := fun x => (E10 x).isSome
theorem p10 : ∀ x, G10 x = true → PureOK Try.prog 10 (mkA [(.vsl KTk4)] x) ⟨(.vsl (.int .i64)), F10 x⟩ :=
  PureOK.ofL (ts := [(.vsl KTk4)]) (T := (.vsl (.int .i64))) (S := E10) CxOK10 Try.func10 (LOK.fn LOK10) (fun x => t10 F22 G22 F23 G23 F24 G24 W10_0 Q10_0 x.1)
noncomputable def kn11 : Kn := kOf []
theorem knOK11 : KOK Try.prog kn11 := KOK.nil
noncomputable def V11_2 : (KDk6 × (List Int) × Int × Bool × Int × Unit) → Option ((KDk6 × (List Int) × Int × Bool × Int × Unit) ⊕ (KDk6 × (List Int) × Int × Bool × Unit)) := fun x => R11_2  (fun _ => ([], [], 0, false, ())) (fun _ => false) (fun _ => ([], ())) (fun _ => false) x.1 x.2.1 x.2.2.1 x.2.2.2.1 x.2.2.2.2.1
noncomputable def W11_2 : (KDk6 × (List Int) × Int × Bool × Int × Unit) → (KDk6 × (List Int) × Int × Bool × Unit) := whV (hd := hd11_2) (ys := ys11_2) V11_2
noncomputable def Q11_2 : (KDk6 × (List Int) × Int × Bool × Int × Unit) → Bool := whK (hd := hd11_2) (ys := ys11_2) V11_2
noncomputable def V11_0 : (KDk6 × (List Int) × Int × Unit) → Option ((KDk6 × (List Int) × Int × Unit) ⊕ ((List Int) × Unit)) := fun x => R11_0  W11_2 Q11_2 (fun _ => ([], ())) (fun _ => false) x.1 x.2.1 x.2.2.1
noncomputable def W11_0 : (KDk6 × (List Int) × Int × Unit) → ((List Int) × Unit) := whV (hd := hd11_0) (ys := ys11_0) V11_0
noncomputable def Q11_0 : (KDk6 × (List Int) × Int × Unit) → Bool := whK (hd := hd11_0) (ys := ys11_0) V11_0
noncomputable def C11 : Cx := CxL Try.Θ kn11 (lOf [(2, orc 57 48 2 hd11_2 ys11_2 W11_2 Q11_2), (0, orc 57 24 0 hd11_0 ys11_0 W11_0 Q11_0)])
theorem CxOK11 : CxOK Try.prog C11 := ⟨Try.tabOK, knOK11, by kernel_rfl⟩
theorem l11_2 : Lone Try.prog C11 2 (.loop (loopB 2 (bodyF Try.f11))) (orc 57 48 2 hd11_2 ys11_2 W11_2 Q11_2) :=
  Lone.of CxOK11 (Lall.LOK rfl (by kernel_rfl) (Lall.skip (by kernel_rfl) (Lall.skip (by kernel_rfl) trivial))) (by kernel_rfl) (fun x => (r11_2  W11_2 Q11_2 W11_0 Q11_0 x.1 x.2.1 x.2.2.1 x.2.2.2.1 x.2.2.2.2.1).trans (by rfl))
theorem l11_0 : Lone Try.prog C11 0 (.loop (loopB 0 (bodyF Try.f11))) (orc 57 24 0 hd11_0 ys11_0 W11_0 Q11_0) :=
  Lone.of CxOK11 (Lall.LOK rfl (by kernel_rfl) (Lall.cons (by kernel_rfl) l11_2 (Lall.skip (by kernel_rfl) trivial))) (by kernel_rfl) (fun x => (r11_0  W11_2 Q11_2 W11_0 Q11_0 x.1 x.2.1 x.2.2.1).trans (by rfl))
theorem LOK11 : LOK Try.prog C11 0 (bodyF Try.f11) := (Lall.LOK rfl (by kernel_rfl) (Lall.cons (by kernel_rfl) l11_2 (Lall.cons (by kernel_rfl) l11_0 trivial)))
noncomputable def E11 : (KDk6 × Unit) → Option (List Int) := fun x => S11  W11_2 Q11_2 W11_0 Q11_0 x.1
noncomputable def F11 : (KDk6 × Unit) → (List Int) := fun x => (E11 x).getD (dflt (.vsl (.int .i64)))
noncomputable def G11 : (KDk6 × Unit) → Bool := fun x => (E11 x).isSome
theorem p11 : ∀ x, G11 x = true → PureOK Try.prog 11 (mkA [(.vsl KTk4)] x) ⟨(.vsl (.int .i64)), F11 x⟩ :=
  PureOK.ofS (ts := [(.vsl KTk4)]) (T := (.vsl (.int .i64))) (S := E11) CxOK11 Try.func11 (LOK.fn LOK11) (fun x => t11  W11_2 Q11_2 W11_0 Q11_0 x.1)
noncomputable def kn3 : Kn := kOf [(7, sm [(.vsl KTk4)] (.tup (.int .i64) KTk7) F7 G7), (8, sm [(.vsl KTk4)] (.tup (.int .i64) KTk7) F8 G8), (9, sm [(.vsl (.int .i64)), (.vsl (.int .i64))] .bool F9 G9), (10, sm [(.vsl KTk4)] (.vsl (.int .i64)) F10 G10), (11, sm [(.vsl KTk4)] (.vsl (.int .i64)) F11 G11), (12, sm [] .bool F12 G12)]
theorem knOK3 : KOK Try.prog kn3 := (KOK.cons Try.call7 (SmOK.sm p7) (KOK.cons Try.call8 (SmOK.sm p8) (KOK.cons Try.call9 (SmOK.sm p9) (KOK.cons Try.call10 (SmOK.sm p10) (KOK.cons Try.call11 (SmOK.sm p11) (KOK.cons Try.call12 (SmOK.sm p12) KOK.nil))))))
noncomputable def C3 : Cx := CxL Try.Θ kn3 (lOf [])
theorem CxOK3 : CxOK Try.prog C3 := ⟨Try.tabOK, knOK3, by kernel_rfl⟩
theorem LOK3 : LOK Try.prog C3 0 (bodyF Try.f3) := (Lall.LOK rfl (by kernel_rfl) trivial)
noncomputable def E3 : (KDk6 × Unit) → Option Bool := fun x => S3 F7 G7 F8 G8 F9 G9 F10 G10 F11 G11 F12 G12  x.1
noncomputable def F3 : (KDk6 × Unit) → Bool := fun x => (E3 x).getD (dflt .bool)
noncomputable def G3 : (KDk6 × Unit) → Bool := fun x => (E3 x).isSome
theorem p3 : ∀ x, G3 x = true → PureOK Try.prog 3 (mkA [(.vsl KTk4)] x) ⟨.bool, F3 x⟩ :=
  PureOK.ofS (ts := [(.vsl KTk4)]) (T := .bool) (S := E3) CxOK3 Try.func3 (LOK.fn LOK3) (fun x => t3 F7 G7 F8 G8 F9 G9 F10 G10 F11 G11 F12 G12  x.1)
end Go.Proofs
