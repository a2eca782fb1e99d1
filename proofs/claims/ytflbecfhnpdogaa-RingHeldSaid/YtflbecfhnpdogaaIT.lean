import Derived.Test.YtflbecfhnpdogaaBT
import Derived.Test.YtflbecfhnpdogaaGd
namespace Go.Proofs
open Go.GX
set_option linter.unusedVariables false
set_option maxRecDepth 100000

noncomputable def kn10 : Kn := kOf []
theorem knOK10 : KOK Try.prog kn10 := KOK.nil
noncomputable def V10_0 : ((List (List UInt8)) × (List (List UInt8)) × Int × Unit) → Option (((List (List UInt8)) × (List (List UInt8)) × Int × Unit) ⊕ ((Unit) ⊕ (Bool × Unit))) := fun x => R10_0  (fun _ => (Sum.inl (()))) (fun _ => false) x.1 x.2.1 x.2.2.1
noncomputable def W10_0 : ((List (List UInt8)) × (List (List UInt8)) × Int × Unit) → ((Unit) ⊕ (Bool × Unit)) := whV (hd := hd10_0) (ys := ys10_0) V10_0
noncomputable def Q10_0 : ((List (List UInt8)) × (List (List UInt8)) × Int × Unit) → Bool := whK (hd := hd10_0) (ys := ys10_0) V10_0
noncomputable def C10 : Cx := CxL Try.Θ kn10 (lOf [(0, orc 26 24 0 hd10_0 ys10_0 W10_0 Q10_0)])
theorem CxOK10 : CxOK Try.prog C10 := ⟨Try.tabOK, knOK10, by kernel_rfl, POK.none⟩
theorem l10_0 : Lone Try.prog C10 0 (.loop (loopB 0 (bodyF Try.f10))) (orc 26 24 0 hd10_0 ys10_0 W10_0 Q10_0) :=
  Lone.of CxOK10 (Lall.LOK rfl (by kernel_rfl) (Lall.skip (by kernel_rfl) trivial)) (by kernel_rfl) (fun x => (r10_0  W10_0 Q10_0 x.1 x.2.1 x.2.2.1).trans (by first | (delta V10_0 R10_0; with_reducible rfl) | rfl))
theorem LOK10 : LOK Try.prog C10 0 (bodyF Try.f10) := (Lall.LOK rfl (by kernel_rfl) (Lall.cons (by kernel_rfl) l10_0 trivial))
noncomputable def E10 : ((List (List UInt8)) × (List (List UInt8)) × Unit) → Option Bool := fun x => S10  W10_0 Q10_0 x.1 x.2.1
noncomputable def F10 : ((List (List UInt8)) × (List (List UInt8)) × Unit) → Bool := fun x => (E10 x).getD (dflt .bool)
noncomputable def G10 : ((List (List UInt8)) × (List (List UInt8)) × Unit) → Bool := fun x => (E10 x).isSome
theorem p10 : ∀ x, G10 x = true → PureOK Try.prog 10 (mkA [(.vsl .str), (.vsl .str)] x) ⟨.bool, F10 x⟩ :=
  PureOK.ofS (ts := [(.vsl .str), (.vsl .str)]) (T := .bool) (S := E10) CxOK10 Try.func10 (LOK.fn LOK10) (fun x => t10  W10_0 Q10_0 x.1 x.2.1)
end Go.Proofs
