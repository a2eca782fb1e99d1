import Derived.Test.YtjnbpklllapjiaaBB
import Derived.Test.YtjnbpklllapjiaaGe
namespace Go.Proofs
open Go.GX
set_option linter.unusedVariables false
set_option maxRecDepth 100000
noncomputable def kn15g : Kn := kOf [(36, smG [.p ODb3] ODb3 1 F36g G36g)]
theorem knOK15g : KOK Try.prog kn15g := (KOK.cons Try.call36 sm36g_ok KOK.nil)
noncomputable def C15g : Cx := CxL Try.Θ kn15g (lOf [])
theorem CxOK15g : CxOK Try.prog C15g := ⟨Try.tabOK, knOK15g, by kernel_rfl, POK.none⟩
theorem LOK15g : LOK Try.prog C15g 1 (bodyF Try.f15) := LOK.void (fun _ => rfl)
noncomputable def E15g : (KDb14 × Unit) → Option KDb14 := fun x => S15g F36g G36g  x.1
noncomputable def F15g : (KDb14 × Unit) → KDb14 := fun x => (E15g x).getD (Dk.dflt ODb0)
noncomputable def G15g : (KDb14 × Unit) → Bool := fun x => (E15g x).isSome
theorem sm15g_ok : SmOK Try.prog 15 (smG [.im ODb0] ODb0 1 F15g G15g) := SmOK.smG (n1 := 1) (by kernel_rfl) (GOK.ofS (pts := [.im ODb0]) (n1 := 1) (D := ODb0) (n2 := 1) (S := E15g) CxOK15g Try.func15 (LOK.fn LOK15g) (by kernel_rfl) (fun x => t15g F36g G36g  x.1))
end Go.Proofs
