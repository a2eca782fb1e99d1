import Derived.Test.YtnbpakmcibjmaaaBK
import Derived.Test.YtnbpakmcibjmaaaGd
namespace Go.Proofs
open Go.GX
set_option linter.unusedVariables false
set_option maxRecDepth 100000

noncomputable def kn6 : Kn := kOf [(7, smN ODk2 3 [KTk8] KTk9 F7 H7 G7), (9, smO ODk3 [0] 2 [.str, (.int .i64)] (.int .i64) F9 H9 G9), (11, smO ODk3 [0] 2 [] (.tup .str KTk9) F11 H11 G11), (15, smR ODk3 [0] [] (.int .i64) F15 G15), (16, sm [] .bool F16 G16)]
theorem knOK6 : KOK Try.prog kn6 := (KOK.cons Try.call7 sm7_ok (KOK.cons Try.call9 sm9_ok (KOK.cons Try.call11 sm11_ok (KOK.cons Try.call15 sm15_ok (KOK.cons Try.call16 (SmOK.sm p16) KOK.nil)))))
noncomputable def V6_0 : ((List (List UInt8)) × Unit × Unit × (List (List UInt8)) × Int × (Int × KDk13) × KDk1 × Unit) → Option (((List (List UInt8)) × Unit × Unit × (List (List UInt8)) × Int × (Int × KDk13) × KDk1 × Unit) ⊕ ((Unit × (List (List UInt8)) × KDk1 × Unit) ⊕ (Bool × Unit))) := fun x => R6_0 F7 H7 G7 F9 H9 G9 F11 H11 G11 F15 G15 F16 G16 (fun _ => (Sum.inl ((), [], ((0, (0, (0, (0, ())))), (([], ()), ())), ()))) (fun _ => false) (fun _ => (Sum.inl ((), [], ((0, (0, (0, (0, ())))), (([], ()), ())), ()))) (fun _ => false) x.1 x.2.1 x.2.2.1 x.2.2.2.1 x.2.2.2.2.1 x.2.2.2.2.2.1 x.2.2.2.2.2.2.1
noncomputable def W6_0 : ((List (List UInt8)) × Unit × Unit × (List (List UInt8)) × Int × (Int × KDk13) × KDk1 × Unit) → ((Unit × (List (List UInt8)) × KDk1 × Unit) ⊕ (Bool × Unit)) := whV (hd := hd6_0) (ys := ys6_0) V6_0
noncomputable def Q6_0 : ((List (List UInt8)) × Unit × Unit × (List (List UInt8)) × Int × (Int × KDk13) × KDk1 × Unit) → Bool := whK (hd := hd6_0) (ys := ys6_0) V6_0
noncomputable def V6_2 : (Unit × (List (List UInt8)) × Int × KDk2 × Unit) → Option ((Unit × (List (List UInt8)) × Int × KDk2 × Unit) ⊕ ((Unit × (List (List UInt8)) × KDk2 × Unit) ⊕ (Bool × Unit))) := fun x => R6_2 F7 H7 G7 F9 H9 G9 F11 H11 G11 F15 G15 F16 G16 W6_0 Q6_0 (fun _ => (Sum.inl ((), [], ((0, (0, (0, (0, ())))), (([], ()), ())), ()))) (fun _ => false) x.1 x.2.1 x.2.2.1 x.2.2.2.1
noncomputable def W6_2 : (Unit × (List (List UInt8)) × Int × KDk2 × Unit) → ((Unit × (List (List UInt8)) × KDk2 × Unit) ⊕ (Bool × Unit)) := whV (hd := hd6_2) (ys := ys6_2) V6_2
noncomputable def Q6_2 : (Unit × (List (List UInt8)) × Int × KDk2 × Unit) → Bool := whK (hd := hd6_2) (ys := ys6_2) V6_2
noncomputable def C6 : Cx := CxL Try.Θl kn6 (lOf [(0, orc 96 28 0 hd6_0 ys6_0 W6_0 Q6_0), (2, orc 96 52 2 hd6_2 ys6_2 W6_2 Q6_2), (2000003, fun _ => [])])
theorem CxOK6 : CxOK Try.prog C6 := ⟨Try.tabOKl, knOK6, by kernel_rfl⟩
theorem l6_0 : Lone Try.prog C6 0 (.loop (loopB 0 (bodyF Try.f6))) (orc 96 28 0 hd6_0 ys6_0 W6_0 Q6_0) :=
  Lone.of CxOK6 (Lall.LOK rfl (by kernel_rfl) (Lall.skip (by kernel_rfl) (Lall.skip (by kernel_rfl) (Lall.skip (by kernel_rfl) trivial)))) (by kernel_rfl) (fun x => (r6_0 F7 H7 G7 F9 H9 G9 F11 H11 G11 F15 G15 F16 G16 W6_0 Q6_0 W6_2 Q6_2 x.1 x.2.1 x.2.2.1 x.2.2.2.1 x.2.2.2.2.1 x.2.2.2.2.2.1 x.2.2.2.2.2.2.1).trans (by rfl))
theorem l6_2 : Lone Try.prog C6 2 (.loop (loopB 2 (bodyF Try.f6))) (orc 96 52 2 hd6_2 ys6_2 W6_2 Q6_2) :=
  Lone.of CxOK6 (Lall.LOK rfl (by kernel_rfl) (Lall.skip (by kernel_rfl) (Lall.skip (by kernel_rfl) (Lall.skip (by kernel_rfl) trivial)))) (by kernel_rfl) (fun x => (r6_2 F7 H7 G7 F9 H9 G9 F11 H11 G11 F15 G15 F16 G16 W6_0 Q6_0 W6_2 Q6_2 x.1 x.2.1 x.2.2.1 x.2.2.2.1).trans (by rfl))
theorem LOK6 : LOK Try.prog C6 0 (bodyF Try.f6) := (Lall.LOK rfl (by kernel_rfl) (Lall.cons (by kernel_rfl) l6_0 (Lall.cons (by kernel_rfl) l6_2 (Lall.skip (by kernel_rfl) trivial))))
noncomputable def E6 : ((List (List UInt8)) × (Int × KDk13) × Unit) → Option Bool := fun x => S6 F7 H7 G7 F9 H9 G9 F11 H11 G11 F15 G15 F16 G16 W6_0 Q6_0 W6_2 Q6_2 x.1 x.2.1
noncomputable def F6 : ((List (List UInt8)) × (Int × KDk13) × Unit) → Bool := fun x => (E6 x).getD (dflt .bool)
noncomputable def G6 : ((List (List UInt8)) × (Int × KDk13) × Unit) → Bool := fun x => (E6 x).isSome
theorem p6 : ∀ x, G6 x = true → PureOK Try.prog 6 (mkA [(.vsl .str), KTk4] x) ⟨.bool, F6 x⟩ :=
  PureOK.ofL (ts := [(.vsl .str), KTk4]) (T := .bool) (S := E6) CxOK6 Try.func6 (LOK.fn LOK6) (fun x => t6 F7 H7 G7 F9 H9 G9 F11 H11 G11 F15 G15 F16 G16 W6_0 Q6_0 W6_2 Q6_2 x.1 x.2.1)
end Go.Proofs
