import Derived.Test.YtflbecfhnpdogaaI
import Derived.Test.YtflbecfhnpdogaaIT
namespace Go.Proofs
open Go.GX
set_option linter.unusedVariables false
/-! ## Closed runs with a text of n bytes -/
noncomputable def kkH : ((List (List UInt8)) × (List (List UInt8)) × Unit) → Bool := fun x => G10 x && decide (F10 x = true)
theorem pH : ∀ x, kkH x = true → PureOK Try.prog 10 (mkA [(.vsl .str), (.vsl .str)] x) ⟨.bool, true⟩ := fun x h => by
  have h' := Bool.and_eq_true_iff.1 h
  have := p10 x h'.1
  rw [of_decide_eq_true h'.2] at this
  exact this
noncomputable def DH : Kn := kOf [(10, sm [(.vsl .str), (.vsl .str)] .bool (fun _ => true) kkH), (12, sm [] .bool F12 G12)]
theorem DHOK : KOK Try.prog DH := KOK.cons Try.call10 (SmOK.sm pH) (KOK.cons Try.call12 (SmOK.sm p12) KOK.nil)
noncomputable def CH : Cx := ⟨true, Try.Θ, KX Try.Θ Try.F DH 100 10, 100, fun _ => none, fun _ => none⟩
theorem CHOK : CxOK Try.prog CH := ⟨Try.tabOK, KX_ok Try.tabOK Try.FOK DHOK (by kernel_rfl) 10, by kernel_rfl, POK.none⟩
def cv (x : UInt8) : UInt8 := UInt8.ofNat (Int.toNat ((x.toNat : Nat) : Int))
def lstA (f : Nat → UInt8) : Nat → List UInt8 → List UInt8
  | 0, l => l
  | n + 1, l => lstA f n (f n :: l)
def lst0 (b : Nat → UInt8) (n : Nat) : List UInt8 := lstA b n []
def lst1 (b : Nat → UInt8) (n : Nat) : List UInt8 := lstA (fun i => cv (cv (b i))) n []
end Go.Proofs
