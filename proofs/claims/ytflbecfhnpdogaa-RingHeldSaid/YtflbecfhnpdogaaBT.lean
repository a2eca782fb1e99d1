import Derived.Test.YtflbecfhnpdogaaI
import Derived.Test.YtflbecfhnpdogaaGd
namespace Go.Proofs
open Go.GX
set_option linter.unusedVariables false
set_option maxRecDepth 100000

def hd10_0 : List It := [.sl 0 (.vsl .str), .sl 1 (.vsl .str), .sl 5 (.int .i64)]
def ys10_0 : Ways := [((.exit 0), []), (.ret, [.sl 4 .bool])]
noncomputable def R10_0 (lv0 : ((List (List UInt8)) × (List (List UInt8)) × Int × Unit) → ((Unit) ⊕ (Bool × Unit))) (lk0 : ((List (List UInt8)) × (List (List UInt8)) × Int × Unit) → Bool) (x0 : (List (List UInt8))) (x1 : (List (List UInt8))) (x2 : Int) : Option (((List (List UInt8)) × (List (List UInt8)) × Int × Unit) ⊕ ((Unit) ⊕ (Bool × Unit))) :=
  (bif (decide (x2 < ((x0.length : Nat) : Int))) then
    (bif (!((x0.getD (Int.toNat x2) []) == (x1.getD (Int.toNat x2) []))) then
      (bif (tt 2 (((decide (0 ≤ x2)) && (decide (x2 < ((x1.length : Nat) : Int)))) && (tt 1 ((decide (0 ≤ x2)) && (decide (x2 < ((x0.length : Nat) : Int))))))) then some (.inr (.inr (false, ()))) else none)
    else
      (bif (tt 2 (((decide (0 ≤ x2)) && (decide (x2 < ((x1.length : Nat) : Int)))) && (tt 1 ((decide (0 ≤ x2)) && (decide (x2 < ((x0.length : Nat) : Int))))))) then some (.inl (x0, x1, (IntKind.wrap .i64 (x2 + 1)), ())) else none))
  else
    some (.inr (.inl (()))))
theorem r10_0 (lv0 : ((List (List UInt8)) × (List (List UInt8)) × Int × Unit) → ((Unit) ⊕ (Bool × Unit))) (lk0 : ((List (List UInt8)) × (List (List UInt8)) × Int × Unit) → Bool) (x0 : (List (List UInt8))) (x1 : (List (List UInt8))) (x2 : Int) : codeT (CxL Try.Θ (kOf []) (lOf [(0, orc 26 24 0 hd10_0 ys10_0 lv0 lk0)])) (loopB 0 (bodyF Try.f10)) (mkS 26 24 hd10_0 (x0, x1, x2, ())) (leafR 26 hd10_0 ys10_0) = R10_0 lv0 lk0 x0 x1 x2 := by kernel_rfl
noncomputable def S10 (lv0 : ((List (List UInt8)) × (List (List UInt8)) × Int × Unit) → ((Unit) ⊕ (Bool × Unit))) (lk0 : ((List (List UInt8)) × (List (List UInt8)) × Int × Unit) → Bool) (a0 : (List (List UInt8))) (a1 : (List (List UInt8))) : Option Bool :=
  (bif (!(decide (((a0.length : Nat) : Int) = ((a1.length : Nat) : Int)))) then
    some false
  else
    (bif (isL (lv0 (a0, a1, 0, ()))) then
      (bif (tt 1 (lk0 (a0, a1, 0, ()))) then some true else none)
    else
      (bif (tt 1 (lk0 (a0, a1, 0, ()))) then some (getR ((false, ()) : (Bool × Unit)) (lv0 (a0, a1, 0, ()))).1 else none)))
theorem t10 (lv0 : ((List (List UInt8)) × (List (List UInt8)) × Int × Unit) → ((Unit) ⊕ (Bool × Unit))) (lk0 : ((List (List UInt8)) × (List (List UInt8)) × Int × Unit) → Bool) (a0 : (List (List UInt8))) (a1 : (List (List UInt8))) : fnT (CxL Try.Θ (kOf []) (lOf [(0, orc 26 24 0 hd10_0 ys10_0 lv0 lk0)])) Try.f10 .bool [⟨(.vsl .str), a0⟩, ⟨(.vsl .str), a1⟩] = S10 lv0 lk0 a0 a1 := by kernel_rfl
end Go.Proofs
