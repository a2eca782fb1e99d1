import Derived.Test.YtflbecfhnpdogaaH
namespace Go.Proofs
open Go.GX
set_option linter.unusedVariables false
set_option maxRecDepth 100000
noncomputable def CZ : Cx := CxL Try.Θ (kOf [(12, sm [] .bool F12 G12)]) (lOf [])
theorem CZOK : CxOK Try.prog CZ := ⟨Try.tabOK, KOK.cons Try.call12 (SmOK.sm p12) KOK.nil, by kernel_rfl, POK.none⟩
theorem LZ : LOK Try.prog CZ 0 (bodyF Try.f4) := (Lall.LOK rfl (by kernel_rfl) trivial)
theorem z12 (s : List UInt8) (k : Bool) : fnT CZ Try.f4 .bool [⟨.str, s⟩, ⟨.bool, k⟩] =
  (bif (decide (((s.length : Nat) : Int) < 1)) then (bif (tt 1 (G12 ())) then some (F12 ()) else none) else
   (bif (decide (200 < ((s.length : Nat) : Int))) then (bif (tt 1 (G12 ())) then some (F12 ()) else none) else none)) := by kernel_rfl
end Go.Proofs
