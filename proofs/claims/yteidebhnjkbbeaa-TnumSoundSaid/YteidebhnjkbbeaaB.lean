import Derived.Test.YteidebhnjkbbeaaT
import Derived.Test.YteidebhnjkbbeaaGc
namespace Go.Proofs
open Go.GX
set_option linter.unusedVariables false
set_option maxRecDepth 100000
noncomputable def S9  (a0 : (Int × (Int × Unit))) : Option (Int × (Int × Unit)) :=
  some ((iandn .u64 a0.1 a0.2.1), (a0.2.1, ()))
theorem t9  (a0 : (Int × (Int × Unit))) : fnT (CxL Try.Θ (kOf []) (lOf [])) Try.f9 (.pair (.int .u64) (.pair (.int .u64) .unit)) [⟨(.pair (.int .u64) (.pair (.int .u64) .unit)), a0⟩] = S9  a0 := by kernel_rfl
noncomputable def S41  (a0 : Int) (a1 : Int) : Option (Int × (Int × Unit)) :=
  some ((iandn .u64 a0 a1), (a1, ()))
theorem t41  (a0 : Int) (a1 : Int) : fnT (CxL Try.Θ (kOf []) (lOf [])) Try.f41 (.pair (.int .u64) (.pair (.int .u64) .unit)) [⟨(.int .u64), a0⟩, ⟨(.int .u64), a1⟩] = S41  a0 a1 := by kernel_rfl
noncomputable def S30 (v41 : (Int × Int × Unit) → (Int × (Int × Unit))) (k41 : (Int × Int × Unit) → Bool) (a0 : Unit) (a1 : (Int × (Int × Unit))) (a2 : (Int × (Int × Unit))) : Option (Int × (Int × Unit)) :=
  (bif (tt 1 (k41 ((IntKind.wrap .u64 (a1.1 + a2.1)), (ior .u64 (ior .u64 (ixor .u64 (IntKind.wrap .u64 (a1.1 + a2.1)) (IntKind.wrap .u64 ((IntKind.wrap .u64 ((IntKind.wrap .u64 (a1.1 + a2.1)) + a1.2.1)) + a2.2.1))) a1.2.1) a2.2.1), ()))) then some (v41 ((IntKind.wrap .u64 (a1.1 + a2.1)), (ior .u64 (ior .u64 (ixor .u64 (IntKind.wrap .u64 (a1.1 + a2.1)) (IntKind.wrap .u64 ((IntKind.wrap .u64 ((IntKind.wrap .u64 (a1.1 + a2.1)) + a1.2.1)) + a2.2.1))) a1.2.1) a2.2.1), ())) else none)
theorem t30 (v41 : (Int × Int × Unit) → (Int × (Int × Unit))) (k41 : (Int × Int × Unit) → Bool) (a0 : Unit) (a1 : (Int × (Int × Unit))) (a2 : (Int × (Int × Unit))) : fnT (CxL Try.Θ (kOf [(41, sm [(.int .u64), (.int .u64)] (.pair (.int .u64) (.pair (.int .u64) .unit)) v41 k41)]) (lOf [])) Try.f30 (.pair (.int .u64) (.pair (.int .u64) .unit)) [⟨.unit, a0⟩, ⟨(.pair (.int .u64) (.pair (.int .u64) .unit)), a1⟩, ⟨(.pair (.int .u64) (.pair (.int .u64) .unit)), a2⟩] = S30 v41 k41 a0 a1 a2 := by kernel_rfl
noncomputable def S31 (v41 : (Int × Int × Unit) → (Int × (Int × Unit))) (k41 : (Int × Int × Unit) → Bool) (a0 : Unit) (a1 : (Int × (Int × Unit))) (a2 : (Int × (Int × Unit))) : Option (Int × (Int × Unit)) :=
  (bif (tt 1 (k41 ((IntKind.wrap .u64 (a1.1 - a2.1)), (ior .u64 (ior .u64 (ixor .u64 (IntKind.wrap .u64 ((IntKind.wrap .u64 (a1.1 - a2.1)) + a1.2.1)) (IntKind.wrap .u64 ((IntKind.wrap .u64 (a1.1 - a2.1)) - a2.2.1))) a1.2.1) a2.2.1), ()))) then some (v41 ((IntKind.wrap .u64 (a1.1 - a2.1)), (ior .u64 (ior .u64 (ixor .u64 (IntKind.wrap .u64 ((IntKind.wrap .u64 (a1.1 - a2.1)) + a1.2.1)) (IntKind.wrap .u64 ((IntKind.wrap .u64 (a1.1 - a2.1)) - a2.2.1))) a1.2.1) a2.2.1), ())) else none)
theorem t31 (v41 : (Int × Int × Unit) → (Int × (Int × Unit))) (k41 : (Int × Int × Unit) → Bool) (a0 : Unit) (a1 : (Int × (Int × Unit))) (a2 : (Int × (Int × Unit))) : fnT (CxL Try.Θ (kOf [(41, sm [(.int .u64), (.int .u64)] (.pair (.int .u64) (.pair (.int .u64) .unit)) v41 k41)]) (lOf [])) Try.f31 (.pair (.int .u64) (.pair (.int .u64) .unit)) [⟨.unit, a0⟩, ⟨(.pair (.int .u64) (.pair (.int .u64) .unit)), a1⟩, ⟨(.pair (.int .u64) (.pair (.int .u64) .unit)), a2⟩] = S31 v41 k41 a0 a1 a2 := by kernel_rfl
noncomputable def S42  (a0 : Int) : Option Int :=
  (bif (decide (a0 ≥ 4294967296)) then
    (bif (decide ((ishr .u64 a0 32) ≥ 65536)) then
      (bif (decide ((ishr .u64 (ishr .u64 a0 32) 16) ≥ 256)) then
        (bif (tt 1 ((decide (0 ≤ (IntKind.wrap .u8 (ishr .u64 (ishr .u64 (ishr .u64 a0 32) 16) 8)))) && (decide ((IntKind.wrap .u8 (ishr .u64 (ishr .u64 (ishr .u64 a0 32) 16) 8)) < 256)))) then some (IntKind.wrap .i64 (56 + (IntKind.wrap .i64 ((([0, 1, 2, 2, 3, 3, 3, 3, 4, 4, 4, 4, 4, 4, 4, 4, 5, 5, 5, 5, 5, 5, 5, 5, 5, 5, 5, 5, 5, 5, 5, 5, 6, 6, 6, 6, 6, 6, 6, 6, 6, 6, 6, 6, 6, 6, 6, 6, 6, 6, 6, 6, 6, 6, 6, 6, 6, 6, 6, 6, 6, 6, 6, 6, 7, 7, 7, 7, 7, 7, 7, 7, 7, 7, 7, 7, 7, 7, 7, 7, 7, 7, 7, 7, 7, 7, 7, 7, 7, 7, 7, 7, 7, 7, 7, 7, 7, 7, 7, 7, 7, 7, 7, 7, 7, 7, 7, 7, 7, 7, 7, 7, 7, 7, 7, 7, 7, 7, 7, 7, 7, 7, 7, 7, 7, 7, 7, 7, 8, 8, 8, 8, 8, 8, 8, 8, 8, 8, 8, 8, 8, 8, 8, 8, 8, 8, 8, 8, 8, 8, 8, 8, 8, 8, 8, 8, 8, 8, 8, 8, 8, 8, 8, 8, 8, 8, 8, 8, 8, 8, 8, 8, 8, 8, 8, 8, 8, 8, 8, 8, 8, 8, 8, 8, 8, 8, 8, 8, 8, 8, 8, 8, 8, 8, 8, 8, 8, 8, 8, 8, 8, 8, 8, 8, 8, 8, 8, 8, 8, 8, 8, 8, 8, 8, 8, 8, 8, 8, 8, 8, 8, 8, 8, 8, 8, 8, 8, 8, 8, 8, 8, 8, 8, 8, 8, 8, 8, 8, 8, 8, 8, 8, 8, 8, 8, 8, 8, 8, 8, 8, 8, 8, 8, 8, 8, 8] : List UInt8).getD (Int.toNat (IntKind.wrap .u8 (ishr .u64 (ishr .u64 (ishr .u64 a0 32) 16) 8))) 0).toNat : Int)))) else none)
      else
        (bif (tt 1 ((decide (0 ≤ (IntKind.wrap .u8 (ishr .u64 (ishr .u64 a0 32) 16)))) && (decide ((IntKind.wrap .u8 (ishr .u64 (ishr .u64 a0 32) 16)) < 256)))) then some (IntKind.wrap .i64 (48 + (IntKind.wrap .i64 ((([0, 1, 2, 2, 3, 3, 3, 3, 4, 4, 4, 4, 4, 4, 4, 4, 5, 5, 5, 5, 5, 5, 5, 5, 5, 5, 5, 5, 5, 5, 5, 5, 6, 6, 6, 6, 6, 6, 6, 6, 6, 6, 6, 6, 6, 6, 6, 6, 6, 6, 6, 6, 6, 6, 6, 6, 6, 6, 6, 6, 6, 6, 6, 6, 7, 7, 7, 7, 7, 7, 7, 7, 7, 7, 7, 7, 7, 7, 7, 7, 7, 7, 7, 7, 7, 7, 7, 7, 7, 7, 7, 7, 7, 7, 7, 7, 7, 7, 7, 7, 7, 7, 7, 7, 7, 7, 7, 7, 7, 7, 7, 7, 7, 7, 7, 7, 7, 7, 7, 7, 7, 7, 7, 7, 7, 7, 7, 7, 8, 8, 8, 8, 8, 8, 8, 8, 8, 8, 8, 8, 8, 8, 8, 8, 8, 8, 8, 8, 8, 8, 8, 8, 8, 8, 8, 8, 8, 8, 8, 8, 8, 8, 8, 8, 8, 8, 8, 8, 8, 8, 8, 8, 8, 8, 8, 8, 8, 8, 8, 8, 8, 8, 8, 8, 8, 8, 8, 8, 8, 8, 8, 8, 8, 8, 8, 8, 8, 8, 8, 8, 8, 8, 8, 8, 8, 8, 8, 8, 8, 8, 8, 8, 8, 8, 8, 8, 8, 8, 8, 8, 8, 8, 8, 8, 8, 8, 8, 8, 8, 8, 8, 8, 8, 8, 8, 8, 8, 8, 8, 8, 8, 8, 8, 8, 8, 8, 8, 8, 8, 8, 8, 8, 8, 8, 8, 8] : List UInt8).getD (Int.toNat (IntKind.wrap .u8 (ishr .u64 (ishr .u64 a0 32) 16))) 0).toNat : Int)))) else none))
    else
      (bif (decide ((ishr .u64 a0 32) ≥ 256)) then
        (bif (tt 1 ((decide (0 ≤ (IntKind.wrap .u8 (ishr .u64 (ishr .u64 a0 32) 8)))) && (decide ((IntKind.wrap .u8 (ishr .u64 (ishr .u64 a0 32) 8)) < 256)))) then some (IntKind.wrap .i64 (40 + (IntKind.wrap .i64 ((([0, 1, 2, 2, 3, 3, 3, 3, 4, 4, 4, 4, 4, 4, 4, 4, 5, 5, 5, 5, 5, 5, 5, 5, 5, 5, 5, 5, 5, 5, 5, 5, 6, 6, 6, 6, 6, 6, 6, 6, 6, 6, 6, 6, 6, 6, 6, 6, 6, 6, 6, 6, 6, 6, 6, 6, 6, 6, 6, 6, 6, 6, 6, 6, 7, 7, 7, 7, 7, 7, 7, 7, 7, 7, 7, 7, 7, 7, 7, 7, 7, 7, 7, 7, 7, 7, 7, 7, 7, 7, 7, 7, 7, 7, 7, 7, 7, 7, 7, 7, 7, 7, 7, 7, 7, 7, 7, 7, 7, 7, 7, 7, 7, 7, 7, 7, 7, 7, 7, 7, 7, 7, 7, 7, 7, 7, 7, 7, 8, 8, 8, 8, 8, 8, 8, 8, 8, 8, 8, 8, 8, 8, 8, 8, 8, 8, 8, 8, 8, 8, 8, 8, 8, 8, 8, 8, 8, 8, 8, 8, 8, 8, 8, 8, 8, 8, 8, 8, 8, 8, 8, 8, 8, 8, 8, 8, 8, 8, 8, 8, 8, 8, 8, 8, 8, 8, 8, 8, 8, 8, 8, 8, 8, 8, 8, 8, 8, 8, 8, 8, 8, 8, 8, 8, 8, 8, 8, 8, 8, 8, 8, 8, 8, 8, 8, 8, 8, 8, 8, 8, 8, 8, 8, 8, 8, 8, 8, 8, 8, 8, 8, 8, 8, 8, 8, 8, 8, 8, 8, 8, 8, 8, 8, 8, 8, 8, 8, 8, 8, 8, 8, 8, 8, 8, 8, 8] : List UInt8).getD (Int.toNat (IntKind.wrap .u8 (ishr .u64 (ishr .u64 a0 32) 8))) 0).toNat : Int)))) else none)
      else
        (bif (tt 1 ((decide (0 ≤ (IntKind.wrap .u8 (ishr .u64 a0 32)))) && (decide ((IntKind.wrap .u8 (ishr .u64 a0 32)) < 256)))) then some (IntKind.wrap .i64 (32 + (IntKind.wrap .i64 ((([0, 1, 2, 2, 3, 3, 3, 3, 4, 4, 4, 4, 4, 4, 4, 4, 5, 5, 5, 5, 5, 5, 5, 5, 5, 5, 5, 5, 5, 5, 5, 5, 6, 6, 6, 6, 6, 6, 6, 6, 6, 6, 6, 6, 6, 6, 6, 6, 6, 6, 6, 6, 6, 6, 6, 6, 6, 6, 6, 6, 6, 6, 6, 6, 7, 7, 7, 7, 7, 7, 7, 7, 7, 7, 7, 7, 7, 7, 7, 7, 7, 7, 7, 7, 7, 7, 7, 7, 7, 7, 7, 7, 7, 7, 7, 7, 7, 7, 7, 7, 7, 7, 7, 7, 7, 7, 7, 7, 7, 7, 7, 7, 7, 7, 7, 7, 7, 7, 7, 7, 7, 7, 7, 7, 7, 7, 7, 7, 8, 8, 8, 8, 8, 8, 8, 8, 8, 8, 8, 8, 8, 8, 8, 8, 8, 8, 8, 8, 8, 8, 8, 8, 8, 8, 8, 8, 8, 8, 8, 8, 8, 8, 8, 8, 8, 8, 8, 8, 8, 8, 8, 8, 8, 8, 8, 8, 8, 8, 8, 8, 8, 8, 8, 8, 8, 8, 8, 8, 8, 8, 8, 8, 8, 8, 8, 8, 8, 8, 8, 8, 8, 8, 8, 8, 8, 8, 8, 8, 8, 8, 8, 8, 8, 8, 8, 8, 8, 8, 8, 8, 8, 8, 8, 8, 8, 8, 8, 8, 8, 8, 8, 8, 8, 8, 8, 8, 8, 8, 8, 8, 8, 8, 8, 8, 8, 8, 8, 8, 8, 8, 8, 8, 8, 8, 8, 8] : List UInt8).getD (Int.toNat (IntKind.wrap .u8 (ishr .u64 a0 32))) 0).toNat : Int)))) else none)))
  else
    (bif (decide (a0 ≥ 65536)) then
      (bif (decide ((ishr .u64 a0 16) ≥ 256)) then
        (bif (tt 1 ((decide (0 ≤ (IntKind.wrap .u8 (ishr .u64 (ishr .u64 a0 16) 8)))) && (decide ((IntKind.wrap .u8 (ishr .u64 (ishr .u64 a0 16) 8)) < 256)))) then some (IntKind.wrap .i64 (24 + (IntKind.wrap .i64 ((([0, 1, 2, 2, 3, 3, 3, 3, 4, 4, 4, 4, 4, 4, 4, 4, 5, 5, 5, 5, 5, 5, 5, 5, 5, 5, 5, 5, 5, 5, 5, 5, 6, 6, 6, 6, 6, 6, 6, 6, 6, 6, 6, 6, 6, 6, 6, 6, 6, 6, 6, 6, 6, 6, 6, 6, 6, 6, 6, 6, 6, 6, 6, 6, 7, 7, 7, 7, 7, 7, 7, 7, 7, 7, 7, 7, 7, 7, 7, 7, 7, 7, 7, 7, 7, 7, 7, 7, 7, 7, 7, 7, 7, 7, 7, 7, 7, 7, 7, 7, 7, 7, 7, 7, 7, 7, 7, 7, 7, 7, 7, 7, 7, 7, 7, 7, 7, 7, 7, 7, 7, 7, 7, 7, 7, 7, 7, 7, 8, 8, 8, 8, 8, 8, 8, 8, 8, 8, 8, 8, 8, 8, 8, 8, 8, 8, 8, 8, 8, 8, 8, 8, 8, 8, 8, 8, 8, 8, 8, 8, 8, 8, 8, 8, 8, 8, 8, 8, 8, 8, 8, 8, 8, 8, 8, 8, 8, 8, 8, 8, 8, 8, 8, 8, 8, 8, 8, 8, 8, 8, 8, 8, 8, 8, 8, 8, 8, 8, 8, 8, 8, 8, 8, 8, 8, 8, 8, 8, 8, 8, 8, 8, 8, 8, 8, 8, 8, 8, 8, 8, 8, 8, 8, 8, 8, 8, 8, 8, 8, 8, 8, 8, 8, 8, 8, 8, 8, 8, 8, 8, 8, 8, 8, 8, 8, 8, 8, 8, 8, 8, 8, 8, 8, 8, 8, 8] : List UInt8).getD (Int.toNat (IntKind.wrap .u8 (ishr .u64 (ishr .u64 a0 16) 8))) 0).toNat : Int)))) else none)
      else
        (bif (tt 1 ((decide (0 ≤ (IntKind.wrap .u8 (ishr .u64 a0 16)))) && (decide ((IntKind.wrap .u8 (ishr .u64 a0 16)) < 256)))) then some (IntKind.wrap .i64 (16 + (IntKind.wrap .i64 ((([0, 1, 2, 2, 3, 3, 3, 3, 4, 4, 4, 4, 4, 4, 4, 4, 5, 5, 5, 5, 5, 5, 5, 5, 5, 5, 5, 5, 5, 5, 5, 5, 6, 6, 6, 6, 6, 6, 6, 6, 6, 6, 6, 6, 6, 6, 6, 6, 6, 6, 6, 6, 6, 6, 6, 6, 6, 6, 6, 6, 6, 6, 6, 6, 7, 7, 7, 7, 7, 7, 7, 7, 7, 7, 7, 7, 7, 7, 7, 7, 7, 7, 7, 7, 7, 7, 7, 7, 7, 7, 7, 7, 7, 7, 7, 7, 7, 7, 7, 7, 7, 7, 7, 7, 7, 7, 7, 7, 7, 7, 7, 7, 7, 7, 7, 7, 7, 7, 7, 7, 7, 7, 7, 7, 7, 7, 7, 7, 8, 8, 8, 8, 8, 8, 8, 8, 8, 8, 8, 8, 8, 8, 8, 8, 8, 8, 8, 8, 8, 8, 8, 8, 8, 8, 8, 8, 8, 8, 8, 8, 8, 8, 8, 8, 8, 8, 8, 8, 8, 8, 8, 8, 8, 8, 8, 8, 8, 8, 8, 8, 8, 8, 8, 8, 8, 8, 8, 8, 8, 8, 8, 8, 8, 8, 8, 8, 8, 8, 8, 8, 8, 8, 8, 8, 8, 8, 8, 8, 8, 8, 8, 8, 8, 8, 8, 8, 8, 8, 8, 8, 8, 8, 8, 8, 8, 8, 8, 8, 8, 8, 8, 8, 8, 8, 8, 8, 8, 8, 8, 8, 8, 8, 8, 8, 8, 8, 8, 8, 8, 8, 8, 8, 8, 8, 8, 8] : List UInt8).getD (Int.toNat (IntKind.wrap .u8 (ishr .u64 a0 16))) 0).toNat : Int)))) else none))
    else
      (bif (decide (a0 ≥ 256)) then
        (bif (tt 1 ((decide (0 ≤ (IntKind.wrap .u8 (ishr .u64 a0 8)))) && (decide ((IntKind.wrap .u8 (ishr .u64 a0 8)) < 256)))) then some (IntKind.wrap .i64 (8 + (IntKind.wrap .i64 ((([0, 1, 2, 2, 3, 3, 3, 3, 4, 4, 4, 4, 4, 4, 4, 4, 5, 5, 5, 5, 5, 5, 5, 5, 5, 5, 5, 5, 5, 5, 5, 5, 6, 6, 6, 6, 6, 6, 6, 6, 6, 6, 6, 6, 6, 6, 6, 6, 6, 6, 6, 6, 6, 6, 6, 6, 6, 6, 6, 6, 6, 6, 6, 6, 7, 7, 7, 7, 7, 7, 7, 7, 7, 7, 7, 7, 7, 7, 7, 7, 7, 7, 7, 7, 7, 7, 7, 7, 7, 7, 7, 7, 7, 7, 7, 7, 7, 7, 7, 7, 7, 7, 7, 7, 7, 7, 7, 7, 7, 7, 7, 7, 7, 7, 7, 7, 7, 7, 7, 7, 7, 7, 7, 7, 7, 7, 7, 7, 8, 8, 8, 8, 8, 8, 8, 8, 8, 8, 8, 8, 8, 8, 8, 8, 8, 8, 8, 8, 8, 8, 8, 8, 8, 8, 8, 8, 8, 8, 8, 8, 8, 8, 8, 8, 8, 8, 8, 8, 8, 8, 8, 8, 8, 8, 8, 8, 8, 8, 8, 8, 8, 8, 8, 8, 8, 8, 8, 8, 8, 8, 8, 8, 8, 8, 8, 8, 8, 8, 8, 8, 8, 8, 8, 8, 8, 8, 8, 8, 8, 8, 8, 8, 8, 8, 8, 8, 8, 8, 8, 8, 8, 8, 8, 8, 8, 8, 8, 8, 8, 8, 8, 8, 8, 8, 8, 8, 8, 8, 8, 8, 8, 8, 8, 8, 8, 8, 8, 8, 8, 8, 8, 8, 8, 8, 8, 8] : List UInt8).getD (Int.toNat (IntKind.wrap .u8 (ishr .u64 a0 8))) 0).toNat : Int)))) else none)
      else
        (bif (tt 1 ((decide (0 ≤ (IntKind.wrap .u8 a0))) && (decide ((IntKind.wrap .u8 a0) < 256)))) then some (IntKind.wrap .i64 (0 + (IntKind.wrap .i64 ((([0, 1, 2, 2, 3, 3, 3, 3, 4, 4, 4, 4, 4, 4, 4, 4, 5, 5, 5, 5, 5, 5, 5, 5, 5, 5, 5, 5, 5, 5, 5, 5, 6, 6, 6, 6, 6, 6, 6, 6, 6, 6, 6, 6, 6, 6, 6, 6, 6, 6, 6, 6, 6, 6, 6, 6, 6, 6, 6, 6, 6, 6, 6, 6, 7, 7, 7, 7, 7, 7, 7, 7, 7, 7, 7, 7, 7, 7, 7, 7, 7, 7, 7, 7, 7, 7, 7, 7, 7, 7, 7, 7, 7, 7, 7, 7, 7, 7, 7, 7, 7, 7, 7, 7, 7, 7, 7, 7, 7, 7, 7, 7, 7, 7, 7, 7, 7, 7, 7, 7, 7, 7, 7, 7, 7, 7, 7, 7, 8, 8, 8, 8, 8, 8, 8, 8, 8, 8, 8, 8, 8, 8, 8, 8, 8, 8, 8, 8, 8, 8, 8, 8, 8, 8, 8, 8, 8, 8, 8, 8, 8, 8, 8, 8, 8, 8, 8, 8, 8, 8, 8, 8, 8, 8, 8, 8, 8, 8, 8, 8, 8, 8, 8, 8, 8, 8, 8, 8, 8, 8, 8, 8, 8, 8, 8, 8, 8, 8, 8, 8, 8, 8, 8, 8, 8, 8, 8, 8, 8, 8, 8, 8, 8, 8, 8, 8, 8, 8, 8, 8, 8, 8, 8, 8, 8, 8, 8, 8, 8, 8, 8, 8, 8, 8, 8, 8, 8, 8, 8, 8, 8, 8, 8, 8, 8, 8, 8, 8, 8, 8, 8, 8, 8, 8, 8, 8] : List UInt8).getD (Int.toNat (IntKind.wrap .u8 a0)) 0).toNat : Int)))) else none))))
theorem t42  (a0 : Int) : fnT (CxL Try.Θ (kOf []) (lOf [])) Try.f42 (.int .i64) [⟨(.int .u64), a0⟩] = S42  a0 := by kernel_rfl
noncomputable def S38 (v41 : (Int × Int × Unit) → (Int × (Int × Unit))) (k41 : (Int × Int × Unit) → Bool) (a0 : Int) : Option (Int × (Int × Unit)) :=
  (bif (tt 1 (k41 (a0, 0, ()))) then some (v41 (a0, 0, ())) else none)
theorem t38 (v41 : (Int × Int × Unit) → (Int × (Int × Unit))) (k41 : (Int × Int × Unit) → Bool) (a0 : Int) : fnT (CxL Try.Θ (kOf [(41, sm [(.int .u64), (.int .u64)] (.pair (.int .u64) (.pair (.int .u64) .unit)) v41 k41)]) (lOf [])) Try.f38 (.pair (.int .u64) (.pair (.int .u64) .unit)) [⟨(.int .u64), a0⟩] = S38 v41 k41 a0 := by kernel_rfl
def hd32_0 : List It := [.pt 3 ⟨0, [0]⟩, .pt 4 ⟨1, [0]⟩, .pt 5 ⟨2, [0]⟩, .pt 6 ⟨3, [0]⟩, .pt 7 ⟨4, [0]⟩, .sl 17 (.int .i64), .sl 18 (.int .i64), .bl 0 .unit, .bl 1 (.pair (.int .u64) (.pair (.int .u64) .unit)), .bl 2 (.pair (.int .u64) (.pair (.int .u64) .unit)), .bl 3 (.pair (.int .u64) (.pair (.int .u64) .unit)), .bl 4 (.pair (.int .u64) (.pair (.int .u64) .unit))]
def ys32_0 : Ways := [((.exit 0), [.pt 3 ⟨0, [0]⟩, .pt 4 ⟨1, [0]⟩, .pt 5 ⟨2, [0]⟩, .pt 6 ⟨3, [0]⟩, .pt 7 ⟨4, [0]⟩, .bl 0 .unit, .bl 1 (.pair (.int .u64) (.pair (.int .u64) .unit)), .bl 2 (.pair (.int .u64) (.pair (.int .u64) .unit)), .bl 3 (.pair (.int .u64) (.pair (.int .u64) .unit)), .bl 4 (.pair (.int .u64) (.pair (.int .u64) .unit))])]
noncomputable def R32_0 (v30 : (Unit × (Int × (Int × Unit)) × (Int × (Int × Unit)) × Unit) → (Int × (Int × Unit))) (k30 : (Unit × (Int × (Int × Unit)) × (Int × (Int × Unit)) × Unit) → Bool) (v38 : (Int × Unit) → (Int × (Int × Unit))) (k38 : (Int × Unit) → Bool) (v41 : (Int × Int × Unit) → (Int × (Int × Unit))) (k41 : (Int × Int × Unit) → Bool) (v42 : (Int × Unit) → Int) (k42 : (Int × Unit) → Bool) (lv0 : (Unit × Unit × Unit × Unit × Unit × Int × Int × Unit × (Int × (Int × Unit)) × (Int × (Int × Unit)) × (Int × (Int × Unit)) × (Int × (Int × Unit)) × Unit) → (Unit × Unit × Unit × Unit × Unit × Unit × (Int × (Int × Unit)) × (Int × (Int × Unit)) × (Int × (Int × Unit)) × (Int × (Int × Unit)) × Unit)) (lk0 : (Unit × Unit × Unit × Unit × Unit × Int × Int × Unit × (Int × (Int × Unit)) × (Int × (Int × Unit)) × (Int × (Int × Unit)) × (Int × (Int × Unit)) × Unit) → Bool) (x0 : Unit) (x1 : Unit) (x2 : Unit) (x3 : Unit) (x4 : Unit) (x5 : Int) (x6 : Int) (x7 : Unit) (x8 : (Int × (Int × Unit))) (x9 : (Int × (Int × Unit))) (x10 : (Int × (Int × Unit))) (x11 : (Int × (Int × Unit))) : Option ((Unit × Unit × Unit × Unit × Unit × Int × Int × Unit × (Int × (Int × Unit)) × (Int × (Int × Unit)) × (Int × (Int × Unit)) × (Int × (Int × Unit)) × Unit) ⊕ (Unit × Unit × Unit × Unit × Unit × Unit × (Int × (Int × Unit)) × (Int × (Int × Unit)) × (Int × (Int × Unit)) × (Int × (Int × Unit)) × Unit)) :=
  (bif (decide (x6 < x5)) then
    (bif (decide ((iand .u64 (ishr .u64 x8.1 x6) 1) = 1)) then
      (bif (tt 1 (((k30 (x7, x11, (v41 (0, (ishl .u64 x9.2.1 x6), ())), ())) && (tt 1 (k41 (0, (ishl .u64 x9.2.1 x6), ())))) && ((decide (0 ≤ x6)) && (tt 1 ((decide (0 ≤ x6)) && (tt 1 (decide (0 ≤ x6)))))))) then some (.inl ((), (), (), (), (), x5, (IntKind.wrap .i64 (x6 + 1)), x7, x8, x9, x10, (v30 (x7, x11, (v41 (0, (ishl .u64 x9.2.1 x6), ())), ())), ())) else none)
    else
      (bif (decide ((iand .u64 (ishr .u64 x8.2.1 x6) 1) = 1)) then
        (bif (tt 1 (((k30 (x7, x11, (v41 (0, (ior .u64 (ishl .u64 x9.1 x6) (ishl .u64 x9.2.1 x6)), ())), ())) && (tt 1 (k41 (0, (ior .u64 (ishl .u64 x9.1 x6) (ishl .u64 x9.2.1 x6)), ())))) && ((decide (0 ≤ x6)) && ((decide (0 ≤ x6)) && (tt 1 ((decide (0 ≤ x6)) && (tt 1 (decide (0 ≤ x6))))))))) then some (.inl ((), (), (), (), (), x5, (IntKind.wrap .i64 (x6 + 1)), x7, x8, x9, x10, (v30 (x7, x11, (v41 (0, (ior .u64 (ishl .u64 x9.1 x6) (ishl .u64 x9.2.1 x6)), ())), ())), ())) else none)
      else
        (bif (tt 1 ((decide (0 ≤ x6)) && ((decide (0 ≤ x6)) && (tt 1 ((decide (0 ≤ x6)) && (tt 1 (decide (0 ≤ x6)))))))) then some (.inl ((), (), (), (), (), x5, (IntKind.wrap .i64 (x6 + 1)), x7, x8, x9, x10, x11, ())) else none)))
  else
    some (.inr ((), (), (), (), (), x7, x8, x9, x10, x11, ())))
theorem r32_0 (v30 : (Unit × (Int × (Int × Unit)) × (Int × (Int × Unit)) × Unit) → (Int × (Int × Unit))) (k30 : (Unit × (Int × (Int × Unit)) × (Int × (Int × Unit)) × Unit) → Bool) (v38 : (Int × Unit) → (Int × (Int × Unit))) (k38 : (Int × Unit) → Bool) (v41 : (Int × Int × Unit) → (Int × (Int × Unit))) (k41 : (Int × Int × Unit) → Bool) (v42 : (Int × Unit) → Int) (k42 : (Int × Unit) → Bool) (lv0 : (Unit × Unit × Unit × Unit × Unit × Int × Int × Unit × (Int × (Int × Unit)) × (Int × (Int × Unit)) × (Int × (Int × Unit)) × (Int × (Int × Unit)) × Unit) → (Unit × Unit × Unit × Unit × Unit × Unit × (Int × (Int × Unit)) × (Int × (Int × Unit)) × (Int × (Int × Unit)) × (Int × (Int × Unit)) × Unit)) (lk0 : (Unit × Unit × Unit × Unit × Unit × Int × Int × Unit × (Int × (Int × Unit)) × (Int × (Int × Unit)) × (Int × (Int × Unit)) × (Int × (Int × Unit)) × Unit) → Bool) (x0 : Unit) (x1 : Unit) (x2 : Unit) (x3 : Unit) (x4 : Unit) (x5 : Int) (x6 : Int) (x7 : Unit) (x8 : (Int × (Int × Unit))) (x9 : (Int × (Int × Unit))) (x10 : (Int × (Int × Unit))) (x11 : (Int × (Int × Unit))) : codeT (CxL Try.Θ (kOf [(30, sm [.unit, (.pair (.int .u64) (.pair (.int .u64) .unit)), (.pair (.int .u64) (.pair (.int .u64) .unit))] (.pair (.int .u64) (.pair (.int .u64) .unit)) v30 k30), (38, sm [(.int .u64)] (.pair (.int .u64) (.pair (.int .u64) .unit)) v38 k38), (41, sm [(.int .u64), (.int .u64)] (.pair (.int .u64) (.pair (.int .u64) .unit)) v41 k41), (42, sm [(.int .u64)] (.int .i64) v42 k42)]) (lOf [(0, orc 65 29 0 hd32_0 ys32_0 lv0 lk0)])) (loopB 0 (bodyF Try.f32)) (mkS 65 29 hd32_0 (x0, x1, x2, x3, x4, x5, x6, x7, x8, x9, x10, x11, ())) (leafR 65 hd32_0 ys32_0) = R32_0 v30 k30 v38 k38 v41 k41 v42 k42 lv0 lk0 x0 x1 x2 x3 x4 x5 x6 x7 x8 x9 x10 x11 := by kernel_rfl
noncomputable def S32 (v30 : (Unit × (Int × (Int × Unit)) × (Int × (Int × Unit)) × Unit) → (Int × (Int × Unit))) (k30 : (Unit × (Int × (Int × Unit)) × (Int × (Int × Unit)) × Unit) → Bool) (v38 : (Int × Unit) → (Int × (Int × Unit))) (k38 : (Int × Unit) → Bool) (v41 : (Int × Int × Unit) → (Int × (Int × Unit))) (k41 : (Int × Int × Unit) → Bool) (v42 : (Int × Unit) → Int) (k42 : (Int × Unit) → Bool) (lv0 : (Unit × Unit × Unit × Unit × Unit × Int × Int × Unit × (Int × (Int × Unit)) × (Int × (Int × Unit)) × (Int × (Int × Unit)) × (Int × (Int × Unit)) × Unit) → (Unit × Unit × Unit × Unit × Unit × Unit × (Int × (Int × Unit)) × (Int × (Int × Unit)) × (Int × (Int × Unit)) × (Int × (Int × Unit)) × Unit)) (lk0 : (Unit × Unit × Unit × Unit × Unit × Int × Int × Unit × (Int × (Int × Unit)) × (Int × (Int × Unit)) × (Int × (Int × Unit)) × (Int × (Int × Unit)) × Unit) → Bool) (a0 : Unit) (a1 : (Int × (Int × Unit))) (a2 : (Int × (Int × Unit))) : Option (Int × (Int × Unit)) :=
  (bif (((k30 ((lv0 ((), (), (), (), (), (v42 ((ior .u64 a1.1 a1.2.1), ())), 0, a0, a1, a2, (0, (0, ())), (v41 (0, 0, ())), ())).2.2.2.2.2.1, (v38 ((IntKind.wrap .u64 ((lv0 ((), (), (), (), (), (v42 ((ior .u64 a1.1 a1.2.1), ())), 0, a0, a1, a2, (0, (0, ())), (v41 (0, 0, ())), ())).2.2.2.2.2.2.1.1 * (lv0 ((), (), (), (), (), (v42 ((ior .u64 a1.1 a1.2.1), ())), 0, a0, a1, a2, (0, (0, ())), (v41 (0, 0, ())), ())).2.2.2.2.2.2.2.1.1)), ())), (lv0 ((), (), (), (), (), (v42 ((ior .u64 a1.1 a1.2.1), ())), 0, a0, a1, a2, (0, (0, ())), (v41 (0, 0, ())), ())).2.2.2.2.2.2.2.2.2.1, ())) && (tt 1 (k38 ((IntKind.wrap .u64 ((lv0 ((), (), (), (), (), (v42 ((ior .u64 a1.1 a1.2.1), ())), 0, a0, a1, a2, (0, (0, ())), (v41 (0, 0, ())), ())).2.2.2.2.2.2.1.1 * (lv0 ((), (), (), (), (), (v42 ((ior .u64 a1.1 a1.2.1), ())), 0, a0, a1, a2, (0, (0, ())), (v41 (0, 0, ())), ())).2.2.2.2.2.2.2.1.1)), ())))) && ((lk0 ((), (), (), (), (), (v42 ((ior .u64 a1.1 a1.2.1), ())), 0, a0, a1, a2, (0, (0, ())), (v41 (0, 0, ())), ())) && (tt 1 ((k42 ((ior .u64 a1.1 a1.2.1), ())) && (tt 1 (k41 (0, 0, ()))))))) then some (v30 ((lv0 ((), (), (), (), (), (v42 ((ior .u64 a1.1 a1.2.1), ())), 0, a0, a1, a2, (0, (0, ())), (v41 (0, 0, ())), ())).2.2.2.2.2.1, (v38 ((IntKind.wrap .u64 ((lv0 ((), (), (), (), (), (v42 ((ior .u64 a1.1 a1.2.1), ())), 0, a0, a1, a2, (0, (0, ())), (v41 (0, 0, ())), ())).2.2.2.2.2.2.1.1 * (lv0 ((), (), (), (), (), (v42 ((ior .u64 a1.1 a1.2.1), ())), 0, a0, a1, a2, (0, (0, ())), (v41 (0, 0, ())), ())).2.2.2.2.2.2.2.1.1)), ())), (lv0 ((), (), (), (), (), (v42 ((ior .u64 a1.1 a1.2.1), ())), 0, a0, a1, a2, (0, (0, ())), (v41 (0, 0, ())), ())).2.2.2.2.2.2.2.2.2.1, ())) else none)
theorem t32 (v30 : (Unit × (Int × (Int × Unit)) × (Int × (Int × Unit)) × Unit) → (Int × (Int × Unit))) (k30 : (Unit × (Int × (Int × Unit)) × (Int × (Int × Unit)) × Unit) → Bool) (v38 : (Int × Unit) → (Int × (Int × Unit))) (k38 : (Int × Unit) → Bool) (v41 : (Int × Int × Unit) → (Int × (Int × Unit))) (k41 : (Int × Int × Unit) → Bool) (v42 : (Int × Unit) → Int) (k42 : (Int × Unit) → Bool) (lv0 : (Unit × Unit × Unit × Unit × Unit × Int × Int × Unit × (Int × (Int × Unit)) × (Int × (Int × Unit)) × (Int × (Int × Unit)) × (Int × (Int × Unit)) × Unit) → (Unit × Unit × Unit × Unit × Unit × Unit × (Int × (Int × Unit)) × (Int × (Int × Unit)) × (Int × (Int × Unit)) × (Int × (Int × Unit)) × Unit)) (lk0 : (Unit × Unit × Unit × Unit × Unit × Int × Int × Unit × (Int × (Int × Unit)) × (Int × (Int × Unit)) × (Int × (Int × Unit)) × (Int × (Int × Unit)) × Unit) → Bool) (a0 : Unit) (a1 : (Int × (Int × Unit))) (a2 : (Int × (Int × Unit))) : fnT (CxL Try.Θ (kOf [(30, sm [.unit, (.pair (.int .u64) (.pair (.int .u64) .unit)), (.pair (.int .u64) (.pair (.int .u64) .unit))] (.pair (.int .u64) (.pair (.int .u64) .unit)) v30 k30), (38, sm [(.int .u64)] (.pair (.int .u64) (.pair (.int .u64) .unit)) v38 k38), (41, sm [(.int .u64), (.int .u64)] (.pair (.int .u64) (.pair (.int .u64) .unit)) v41 k41), (42, sm [(.int .u64)] (.int .i64) v42 k42)]) (lOf [(0, orc 65 29 0 hd32_0 ys32_0 lv0 lk0)])) Try.f32 (.pair (.int .u64) (.pair (.int .u64) .unit)) [⟨.unit, a0⟩, ⟨(.pair (.int .u64) (.pair (.int .u64) .unit)), a1⟩, ⟨(.pair (.int .u64) (.pair (.int .u64) .unit)), a2⟩] = S32 v30 k30 v38 k38 v41 k41 v42 k42 lv0 lk0 a0 a1 a2 := by kernel_rfl
noncomputable def S33  (a0 : Unit) (a1 : (Int × (Int × Unit))) (a2 : (Int × (Int × Unit))) : Option (Int × (Int × Unit)) :=
  some ((ior .u64 a1.1 a2.1), ((iandn .u64 (ior .u64 a1.2.1 a2.2.1) (ior .u64 a1.1 a2.1)), ()))
theorem t33  (a0 : Unit) (a1 : (Int × (Int × Unit))) (a2 : (Int × (Int × Unit))) : fnT (CxL Try.Θ (kOf []) (lOf [])) Try.f33 (.pair (.int .u64) (.pair (.int .u64) .unit)) [⟨.unit, a0⟩, ⟨(.pair (.int .u64) (.pair (.int .u64) .unit)), a1⟩, ⟨(.pair (.int .u64) (.pair (.int .u64) .unit)), a2⟩] = S33  a0 a1 a2 := by kernel_rfl
noncomputable def S34  (a0 : Unit) (a1 : (Int × (Int × Unit))) (a2 : (Int × (Int × Unit))) : Option (Int × (Int × Unit)) :=
  some ((iand .u64 a1.1 a2.1), ((iandn .u64 (iand .u64 (ior .u64 a1.1 a1.2.1) (ior .u64 a2.1 a2.2.1)) (iand .u64 a1.1 a2.1)), ()))
theorem t34  (a0 : Unit) (a1 : (Int × (Int × Unit))) (a2 : (Int × (Int × Unit))) : fnT (CxL Try.Θ (kOf []) (lOf [])) Try.f34 (.pair (.int .u64) (.pair (.int .u64) .unit)) [⟨.unit, a0⟩, ⟨(.pair (.int .u64) (.pair (.int .u64) .unit)), a1⟩, ⟨(.pair (.int .u64) (.pair (.int .u64) .unit)), a2⟩] = S34  a0 a1 a2 := by kernel_rfl
noncomputable def S35 (v41 : (Int × Int × Unit) → (Int × (Int × Unit))) (k41 : (Int × Int × Unit) → Bool) (a0 : Unit) (a1 : (Int × (Int × Unit))) (a2 : (Int × (Int × Unit))) : Option (Int × (Int × Unit)) :=
  (bif (tt 1 (k41 ((ixor .u64 a1.1 a2.1), (ior .u64 a1.2.1 a2.2.1), ()))) then some (v41 ((ixor .u64 a1.1 a2.1), (ior .u64 a1.2.1 a2.2.1), ())) else none)
theorem t35 (v41 : (Int × Int × Unit) → (Int × (Int × Unit))) (k41 : (Int × Int × Unit) → Bool) (a0 : Unit) (a1 : (Int × (Int × Unit))) (a2 : (Int × (Int × Unit))) : fnT (CxL Try.Θ (kOf [(41, sm [(.int .u64), (.int .u64)] (.pair (.int .u64) (.pair (.int .u64) .unit)) v41 k41)]) (lOf [])) Try.f35 (.pair (.int .u64) (.pair (.int .u64) .unit)) [⟨.unit, a0⟩, ⟨(.pair (.int .u64) (.pair (.int .u64) .unit)), a1⟩, ⟨(.pair (.int .u64) (.pair (.int .u64) .unit)), a2⟩] = S35 v41 k41 a0 a1 a2 := by kernel_rfl
noncomputable def S10 (v30 : (Unit × (Int × (Int × Unit)) × (Int × (Int × Unit)) × Unit) → (Int × (Int × Unit))) (k30 : (Unit × (Int × (Int × Unit)) × (Int × (Int × Unit)) × Unit) → Bool) (v31 : (Unit × (Int × (Int × Unit)) × (Int × (Int × Unit)) × Unit) → (Int × (Int × Unit))) (k31 : (Unit × (Int × (Int × Unit)) × (Int × (Int × Unit)) × Unit) → Bool) (v32 : (Unit × (Int × (Int × Unit)) × (Int × (Int × Unit)) × Unit) → (Int × (Int × Unit))) (k32 : (Unit × (Int × (Int × Unit)) × (Int × (Int × Unit)) × Unit) → Bool) (v33 : (Unit × (Int × (Int × Unit)) × (Int × (Int × Unit)) × Unit) → (Int × (Int × Unit))) (k33 : (Unit × (Int × (Int × Unit)) × (Int × (Int × Unit)) × Unit) → Bool) (v34 : (Unit × (Int × (Int × Unit)) × (Int × (Int × Unit)) × Unit) → (Int × (Int × Unit))) (k34 : (Unit × (Int × (Int × Unit)) × (Int × (Int × Unit)) × Unit) → Bool) (v35 : (Unit × (Int × (Int × Unit)) × (Int × (Int × Unit)) × Unit) → (Int × (Int × Unit))) (k35 : (Unit × (Int × (Int × Unit)) × (Int × (Int × Unit)) × Unit) → Bool) (a0 : Int) (a1 : (Int × (Int × Unit))) (a2 : (Int × (Int × Unit))) : Option ((Int × (Int × Unit)) × (Int × Unit)) :=
  (bif (decide (a0 = 0)) then
    (bif (tt 1 (k30 ((), a1, a2, ()))) then some ((v30 ((), a1, a2, ())), 0, ()) else none)
  else
    (bif (decide (a0 = 16)) then
      (bif (tt 1 (k31 ((), a1, a2, ()))) then some ((v31 ((), a1, a2, ())), 0, ()) else none)
    else
      (bif (decide (a0 = 32)) then
        (bif (tt 1 (k32 ((), a1, a2, ()))) then some ((v32 ((), a1, a2, ())), 0, ()) else none)
      else
        (bif (decide (a0 = 64)) then
          (bif (tt 1 (k33 ((), a1, a2, ()))) then some ((v33 ((), a1, a2, ())), 0, ()) else none)
        else
          (bif (decide (a0 = 80)) then
            (bif (tt 1 (k34 ((), a1, a2, ()))) then some ((v34 ((), a1, a2, ())), 0, ()) else none)
          else
            (bif (decide (a0 = 160)) then (bif (tt 1 (k35 ((), a1, a2, ()))) then some ((v35 ((), a1, a2, ())), 0, ()) else none) else some ((0, (0, ())), 1, ())))))))
theorem t10 (v30 : (Unit × (Int × (Int × Unit)) × (Int × (Int × Unit)) × Unit) → (Int × (Int × Unit))) (k30 : (Unit × (Int × (Int × Unit)) × (Int × (Int × Unit)) × Unit) → Bool) (v31 : (Unit × (Int × (Int × Unit)) × (Int × (Int × Unit)) × Unit) → (Int × (Int × Unit))) (k31 : (Unit × (Int × (Int × Unit)) × (Int × (Int × Unit)) × Unit) → Bool) (v32 : (Unit × (Int × (Int × Unit)) × (Int × (Int × Unit)) × Unit) → (Int × (Int × Unit))) (k32 : (Unit × (Int × (Int × Unit)) × (Int × (Int × Unit)) × Unit) → Bool) (v33 : (Unit × (Int × (Int × Unit)) × (Int × (Int × Unit)) × Unit) → (Int × (Int × Unit))) (k33 : (Unit × (Int × (Int × Unit)) × (Int × (Int × Unit)) × Unit) → Bool) (v34 : (Unit × (Int × (Int × Unit)) × (Int × (Int × Unit)) × Unit) → (Int × (Int × Unit))) (k34 : (Unit × (Int × (Int × Unit)) × (Int × (Int × Unit)) × Unit) → Bool) (v35 : (Unit × (Int × (Int × Unit)) × (Int × (Int × Unit)) × Unit) → (Int × (Int × Unit))) (k35 : (Unit × (Int × (Int × Unit)) × (Int × (Int × Unit)) × Unit) → Bool) (a0 : Int) (a1 : (Int × (Int × Unit))) (a2 : (Int × (Int × Unit))) : fnT (CxL Try.Θ (kOf [(30, sm [.unit, (.pair (.int .u64) (.pair (.int .u64) .unit)), (.pair (.int .u64) (.pair (.int .u64) .unit))] (.pair (.int .u64) (.pair (.int .u64) .unit)) v30 k30), (31, sm [.unit, (.pair (.int .u64) (.pair (.int .u64) .unit)), (.pair (.int .u64) (.pair (.int .u64) .unit))] (.pair (.int .u64) (.pair (.int .u64) .unit)) v31 k31), (32, sm [.unit, (.pair (.int .u64) (.pair (.int .u64) .unit)), (.pair (.int .u64) (.pair (.int .u64) .unit))] (.pair (.int .u64) (.pair (.int .u64) .unit)) v32 k32), (33, sm [.unit, (.pair (.int .u64) (.pair (.int .u64) .unit)), (.pair (.int .u64) (.pair (.int .u64) .unit))] (.pair (.int .u64) (.pair (.int .u64) .unit)) v33 k33), (34, sm [.unit, (.pair (.int .u64) (.pair (.int .u64) .unit)), (.pair (.int .u64) (.pair (.int .u64) .unit))] (.pair (.int .u64) (.pair (.int .u64) .unit)) v34 k34), (35, sm [.unit, (.pair (.int .u64) (.pair (.int .u64) .unit)), (.pair (.int .u64) (.pair (.int .u64) .unit))] (.pair (.int .u64) (.pair (.int .u64) .unit)) v35 k35)]) (lOf [])) Try.f10 (.tup (.pair (.int .u64) (.pair (.int .u64) .unit)) (.tup (.int .i64) .tnil)) [⟨(.int .i64), a0⟩, ⟨(.pair (.int .u64) (.pair (.int .u64) .unit)), a1⟩, ⟨(.pair (.int .u64) (.pair (.int .u64) .unit)), a2⟩] = S10 v30 k30 v31 k31 v32 k32 v33 k33 v34 k34 v35 k35 a0 a1 a2 := by kernel_rfl
noncomputable def S36  (a0 : (Int × (Int × Unit))) (a1 : (Int × (Int × Unit))) : Option (Int × (Int × Unit)) :=
  some ((iandn .u64 (IntKind.wrap .u64 (a0.1 + a1.1)) (ior .u64 (ior .u64 (ixor .u64 (IntKind.wrap .u64 ((IntKind.wrap .u64 (a0.1 + a1.1)) + (IntKind.wrap .u64 (a0.2.1 + a1.2.1)))) (IntKind.wrap .u64 (a0.1 + a1.1))) a0.2.1) a1.2.1)), ((ior .u64 (ior .u64 (ixor .u64 (IntKind.wrap .u64 ((IntKind.wrap .u64 (a0.1 + a1.1)) + (IntKind.wrap .u64 (a0.2.1 + a1.2.1)))) (IntKind.wrap .u64 (a0.1 + a1.1))) a0.2.1) a1.2.1), ()))
theorem t36  (a0 : (Int × (Int × Unit))) (a1 : (Int × (Int × Unit))) : fnT (CxL Try.Θ (kOf []) (lOf [])) Try.f36 (.pair (.int .u64) (.pair (.int .u64) .unit)) [⟨(.pair (.int .u64) (.pair (.int .u64) .unit)), a0⟩, ⟨(.pair (.int .u64) (.pair (.int .u64) .unit)), a1⟩] = S36  a0 a1 := by kernel_rfl
def hd37_0 : List It := [.pt 2 ⟨0, [0]⟩, .pt 3 ⟨1, [0]⟩, .pt 4 ⟨2, [0]⟩, .pt 5 ⟨3, [0]⟩, .pt 6 ⟨4, [0]⟩, .bl 0 (.pair (.int .u64) (.pair (.int .u64) .unit)), .bl 1 (.pair (.int .u64) (.pair (.int .u64) .unit)), .bl 2 (.pair (.int .u64) (.pair (.int .u64) .unit)), .bl 3 (.pair (.int .u64) (.pair (.int .u64) .unit)), .bl 4 (.pair (.int .u64) (.pair (.int .u64) .unit))]
def ys37_0 : Ways := [((.exit 0), [.pt 4 ⟨2, [0]⟩, .pt 5 ⟨3, [0]⟩, .pt 6 ⟨4, [0]⟩, .bl 2 (.pair (.int .u64) (.pair (.int .u64) .unit)), .bl 3 (.pair (.int .u64) (.pair (.int .u64) .unit)), .bl 4 (.pair (.int .u64) (.pair (.int .u64) .unit))])]
noncomputable def R37_0 (v36 : ((Int × (Int × Unit)) × (Int × (Int × Unit)) × Unit) → (Int × (Int × Unit))) (k36 : ((Int × (Int × Unit)) × (Int × (Int × Unit)) × Unit) → Bool) (lv0 : (Unit × Unit × Unit × Unit × Unit × (Int × (Int × Unit)) × (Int × (Int × Unit)) × (Int × (Int × Unit)) × (Int × (Int × Unit)) × (Int × (Int × Unit)) × Unit) → (Unit × Unit × Unit × (Int × (Int × Unit)) × (Int × (Int × Unit)) × (Int × (Int × Unit)) × Unit)) (lk0 : (Unit × Unit × Unit × Unit × Unit × (Int × (Int × Unit)) × (Int × (Int × Unit)) × (Int × (Int × Unit)) × (Int × (Int × Unit)) × (Int × (Int × Unit)) × Unit) → Bool) (x0 : Unit) (x1 : Unit) (x2 : Unit) (x3 : Unit) (x4 : Unit) (x5 : (Int × (Int × Unit))) (x6 : (Int × (Int × Unit))) (x7 : (Int × (Int × Unit))) (x8 : (Int × (Int × Unit))) (x9 : (Int × (Int × Unit))) : Option ((Unit × Unit × Unit × Unit × Unit × (Int × (Int × Unit)) × (Int × (Int × Unit)) × (Int × (Int × Unit)) × (Int × (Int × Unit)) × (Int × (Int × Unit)) × Unit) ⊕ (Unit × Unit × Unit × (Int × (Int × Unit)) × (Int × (Int × Unit)) × (Int × (Int × Unit)) × Unit)) :=
  (bif (!((decide (x5.1 = 0)) && (tt 1 (decide (x5.2.1 = 0))))) then
    (bif (decide ((iand .u64 x5.1 1) = 1)) then
      (bif (tt 2 (k36 (x9, (0, (x6.2.1, ())), ()))) then some (.inl ((), (), (), (), (), ((ishr .u64 x5.1 1), ((ishr .u64 x5.2.1 1), ())), ((ishl .u64 x6.1 1), ((ishl .u64 x6.2.1 1), ())), x7, x8, (v36 (x9, (0, (x6.2.1, ())), ())), ())) else none)
    else
      (bif (decide ((iand .u64 x5.2.1 1) = 1)) then
        (bif (tt 2 (k36 (x9, (0, ((ior .u64 x6.1 x6.2.1), ())), ()))) then some (.inl ((), (), (), (), (), ((ishr .u64 x5.1 1), ((ishr .u64 x5.2.1 1), ())), ((ishl .u64 x6.1 1), ((ishl .u64 x6.2.1 1), ())), x7, x8, (v36 (x9, (0, ((ior .u64 x6.1 x6.2.1), ())), ())), ())) else none)
      else
        some (.inl ((), (), (), (), (), ((ishr .u64 x5.1 1), ((ishr .u64 x5.2.1 1), ())), ((ishl .u64 x6.1 1), ((ishl .u64 x6.2.1 1), ())), x7, x8, x9, ()))))
  else
    some (.inr ((), (), (), x7, x8, x9, ())))
theorem r37_0 (v36 : ((Int × (Int × Unit)) × (Int × (Int × Unit)) × Unit) → (Int × (Int × Unit))) (k36 : ((Int × (Int × Unit)) × (Int × (Int × Unit)) × Unit) → Bool) (lv0 : (Unit × Unit × Unit × Unit × Unit × (Int × (Int × Unit)) × (Int × (Int × Unit)) × (Int × (Int × Unit)) × (Int × (Int × Unit)) × (Int × (Int × Unit)) × Unit) → (Unit × Unit × Unit × (Int × (Int × Unit)) × (Int × (Int × Unit)) × (Int × (Int × Unit)) × Unit)) (lk0 : (Unit × Unit × Unit × Unit × Unit × (Int × (Int × Unit)) × (Int × (Int × Unit)) × (Int × (Int × Unit)) × (Int × (Int × Unit)) × (Int × (Int × Unit)) × Unit) → Bool) (x0 : Unit) (x1 : Unit) (x2 : Unit) (x3 : Unit) (x4 : Unit) (x5 : (Int × (Int × Unit))) (x6 : (Int × (Int × Unit))) (x7 : (Int × (Int × Unit))) (x8 : (Int × (Int × Unit))) (x9 : (Int × (Int × Unit))) : codeT (CxL Try.Θ (kOf [(36, sm [(.pair (.int .u64) (.pair (.int .u64) .unit)), (.pair (.int .u64) (.pair (.int .u64) .unit))] (.pair (.int .u64) (.pair (.int .u64) .unit)) v36 k36)]) (lOf [(0, orc 55 29 0 hd37_0 ys37_0 lv0 lk0)])) (loopB 0 (bodyF Try.f37)) (mkS 55 29 hd37_0 (x0, x1, x2, x3, x4, x5, x6, x7, x8, x9, ())) (leafR 55 hd37_0 ys37_0) = R37_0 v36 k36 lv0 lk0 x0 x1 x2 x3 x4 x5 x6 x7 x8 x9 := by kernel_rfl
noncomputable def S37 (v36 : ((Int × (Int × Unit)) × (Int × (Int × Unit)) × Unit) → (Int × (Int × Unit))) (k36 : ((Int × (Int × Unit)) × (Int × (Int × Unit)) × Unit) → Bool) (lv0 : (Unit × Unit × Unit × Unit × Unit × (Int × (Int × Unit)) × (Int × (Int × Unit)) × (Int × (Int × Unit)) × (Int × (Int × Unit)) × (Int × (Int × Unit)) × Unit) → (Unit × Unit × Unit × (Int × (Int × Unit)) × (Int × (Int × Unit)) × (Int × (Int × Unit)) × Unit)) (lk0 : (Unit × Unit × Unit × Unit × Unit × (Int × (Int × Unit)) × (Int × (Int × Unit)) × (Int × (Int × Unit)) × (Int × (Int × Unit)) × (Int × (Int × Unit)) × Unit) → Bool) (a0 : (Int × (Int × Unit))) (a1 : (Int × (Int × Unit))) : Option (Int × (Int × Unit)) :=
  (bif ((k36 ((lv0 ((), (), (), (), (), a0, a1, (0, (0, ())), ((IntKind.wrap .u64 (a0.1 * a1.1)), (0, ())), (0, (0, ())), ())).2.2.2.2.1, (lv0 ((), (), (), (), (), a0, a1, (0, (0, ())), ((IntKind.wrap .u64 (a0.1 * a1.1)), (0, ())), (0, (0, ())), ())).2.2.2.2.2.1, ())) && (tt 1 (lk0 ((), (), (), (), (), a0, a1, (0, (0, ())), ((IntKind.wrap .u64 (a0.1 * a1.1)), (0, ())), (0, (0, ())), ())))) then some (v36 ((lv0 ((), (), (), (), (), a0, a1, (0, (0, ())), ((IntKind.wrap .u64 (a0.1 * a1.1)), (0, ())), (0, (0, ())), ())).2.2.2.2.1, (lv0 ((), (), (), (), (), a0, a1, (0, (0, ())), ((IntKind.wrap .u64 (a0.1 * a1.1)), (0, ())), (0, (0, ())), ())).2.2.2.2.2.1, ())) else none)
theorem t37 (v36 : ((Int × (Int × Unit)) × (Int × (Int × Unit)) × Unit) → (Int × (Int × Unit))) (k36 : ((Int × (Int × Unit)) × (Int × (Int × Unit)) × Unit) → Bool) (lv0 : (Unit × Unit × Unit × Unit × Unit × (Int × (Int × Unit)) × (Int × (Int × Unit)) × (Int × (Int × Unit)) × (Int × (Int × Unit)) × (Int × (Int × Unit)) × Unit) → (Unit × Unit × Unit × (Int × (Int × Unit)) × (Int × (Int × Unit)) × (Int × (Int × Unit)) × Unit)) (lk0 : (Unit × Unit × Unit × Unit × Unit × (Int × (Int × Unit)) × (Int × (Int × Unit)) × (Int × (Int × Unit)) × (Int × (Int × Unit)) × (Int × (Int × Unit)) × Unit) → Bool) (a0 : (Int × (Int × Unit))) (a1 : (Int × (Int × Unit))) : fnT (CxL Try.Θ (kOf [(36, sm [(.pair (.int .u64) (.pair (.int .u64) .unit)), (.pair (.int .u64) (.pair (.int .u64) .unit))] (.pair (.int .u64) (.pair (.int .u64) .unit)) v36 k36)]) (lOf [(0, orc 55 29 0 hd37_0 ys37_0 lv0 lk0)])) Try.f37 (.pair (.int .u64) (.pair (.int .u64) .unit)) [⟨(.pair (.int .u64) (.pair (.int .u64) .unit)), a0⟩, ⟨(.pair (.int .u64) (.pair (.int .u64) .unit)), a1⟩] = S37 v36 k36 lv0 lk0 a0 a1 := by kernel_rfl
noncomputable def S11 (v36 : ((Int × (Int × Unit)) × (Int × (Int × Unit)) × Unit) → (Int × (Int × Unit))) (k36 : ((Int × (Int × Unit)) × (Int × (Int × Unit)) × Unit) → Bool) (v37 : ((Int × (Int × Unit)) × (Int × (Int × Unit)) × Unit) → (Int × (Int × Unit))) (k37 : ((Int × (Int × Unit)) × (Int × (Int × Unit)) × Unit) → Bool) (a0 : Int) (a1 : (Int × (Int × Unit))) (a2 : (Int × (Int × Unit))) : Option ((Int × (Int × Unit)) × (Int × Unit)) :=
  (bif (decide (a0 = 0)) then
    (bif (tt 1 (k36 (a1, a2, ()))) then some ((v36 (a1, a2, ())), 0, ()) else none)
  else
    (bif (decide (a0 = 16)) then
      some (((iandn .u64 (IntKind.wrap .u64 (a1.1 - a2.1)) (ior .u64 (ior .u64 (ixor .u64 (IntKind.wrap .u64 ((IntKind.wrap .u64 (a1.1 - a2.1)) + a1.2.1)) (IntKind.wrap .u64 ((IntKind.wrap .u64 (a1.1 - a2.1)) - a2.2.1))) a1.2.1) a2.2.1)), ((ior .u64 (ior .u64 (ixor .u64 (IntKind.wrap .u64 ((IntKind.wrap .u64 (a1.1 - a2.1)) + a1.2.1)) (IntKind.wrap .u64 ((IntKind.wrap .u64 (a1.1 - a2.1)) - a2.2.1))) a1.2.1) a2.2.1), ())), 0, ())
    else
      (bif (decide (a0 = 32)) then
        (bif (tt 1 (k37 (a1, a2, ()))) then some ((v37 (a1, a2, ())), 0, ()) else none)
      else
        (bif (decide (a0 = 64)) then
          some (((ior .u64 a1.1 a2.1), ((iandn .u64 (ior .u64 a1.2.1 a2.2.1) (ior .u64 a1.1 a2.1)), ())), 0, ())
        else
          (bif (decide (a0 = 80)) then
            some (((iand .u64 a1.1 a2.1), ((iandn .u64 (iand .u64 (ior .u64 a1.1 a1.2.1) (ior .u64 a2.1 a2.2.1)) (iand .u64 a1.1 a2.1)), ())), 0, ())
          else
            (bif (decide (a0 = 160)) then
              some (((iandn .u64 (ixor .u64 a1.1 a2.1) (ior .u64 a1.2.1 a2.2.1)), ((ior .u64 a1.2.1 a2.2.1), ())), 0, ())
            else
              some ((0, (0, ())), 1, ())))))))
theorem t11 (v36 : ((Int × (Int × Unit)) × (Int × (Int × Unit)) × Unit) → (Int × (Int × Unit))) (k36 : ((Int × (Int × Unit)) × (Int × (Int × Unit)) × Unit) → Bool) (v37 : ((Int × (Int × Unit)) × (Int × (Int × Unit)) × Unit) → (Int × (Int × Unit))) (k37 : ((Int × (Int × Unit)) × (Int × (Int × Unit)) × Unit) → Bool) (a0 : Int) (a1 : (Int × (Int × Unit))) (a2 : (Int × (Int × Unit))) : fnT (CxL Try.Θ (kOf [(36, sm [(.pair (.int .u64) (.pair (.int .u64) .unit)), (.pair (.int .u64) (.pair (.int .u64) .unit))] (.pair (.int .u64) (.pair (.int .u64) .unit)) v36 k36), (37, sm [(.pair (.int .u64) (.pair (.int .u64) .unit)), (.pair (.int .u64) (.pair (.int .u64) .unit))] (.pair (.int .u64) (.pair (.int .u64) .unit)) v37 k37)]) (lOf [])) Try.f11 (.tup (.pair (.int .u64) (.pair (.int .u64) .unit)) (.tup (.int .i64) .tnil)) [⟨(.int .i64), a0⟩, ⟨(.pair (.int .u64) (.pair (.int .u64) .unit)), a1⟩, ⟨(.pair (.int .u64) (.pair (.int .u64) .unit)), a2⟩] = S11 v36 k36 v37 k37 a0 a1 a2 := by kernel_rfl
noncomputable def S3 (v9 : ((Int × (Int × Unit)) × Unit) → (Int × (Int × Unit))) (k9 : ((Int × (Int × Unit)) × Unit) → Bool) (v10 : (Int × (Int × (Int × Unit)) × (Int × (Int × Unit)) × Unit) → ((Int × (Int × Unit)) × (Int × Unit))) (k10 : (Int × (Int × (Int × Unit)) × (Int × (Int × Unit)) × Unit) → Bool) (v11 : (Int × (Int × (Int × Unit)) × (Int × (Int × Unit)) × Unit) → ((Int × (Int × Unit)) × (Int × Unit))) (k11 : (Int × (Int × (Int × Unit)) × (Int × (Int × Unit)) × Unit) → Bool) (v12 : (Unit) → Bool) (k12 : (Unit) → Bool) (a0 : Int) (a1 : (Int × (Int × Unit))) (a2 : (Int × (Int × Unit))) : Option Bool :=
  (bif ((decide ((v10 (a0, (v9 (a1, ())), (v9 (a2, ())), ())).1.1 = (v11 (a0, (v9 (a1, ())), (v9 (a2, ())), ())).1.1)) && (tt 1 (decide ((v10 (a0, (v9 (a1, ())), (v9 (a2, ())), ())).1.2.1 = (v11 (a0, (v9 (a1, ())), (v9 (a2, ())), ())).1.2.1)))) then
    (bif (decide ((v10 (a0, (v9 (a1, ())), (v9 (a2, ())), ())).2.1 = (v11 (a0, (v9 (a1, ())), (v9 (a2, ())), ())).2.1)) then
      (bif ((k12 (())) && ((k11 (a0, (v9 (a1, ())), (v9 (a2, ())), ())) && ((k10 (a0, (v9 (a1, ())), (v9 (a2, ())), ())) && (tt 1 ((k9 (a2, ())) && (tt 1 (k9 (a1, ())))))))) then some (v12 (())) else none)
    else
      (bif ((k11 (a0, (v9 (a1, ())), (v9 (a2, ())), ())) && ((k10 (a0, (v9 (a1, ())), (v9 (a2, ())), ())) && (tt 1 ((k9 (a2, ())) && (tt 1 (k9 (a1, ()))))))) then some false else none))
  else
    (bif ((k11 (a0, (v9 (a1, ())), (v9 (a2, ())), ())) && ((k10 (a0, (v9 (a1, ())), (v9 (a2, ())), ())) && (tt 1 ((k9 (a2, ())) && (tt 1 (k9 (a1, ()))))))) then some false else none))
theorem t3 (v9 : ((Int × (Int × Unit)) × Unit) → (Int × (Int × Unit))) (k9 : ((Int × (Int × Unit)) × Unit) → Bool) (v10 : (Int × (Int × (Int × Unit)) × (Int × (Int × Unit)) × Unit) → ((Int × (Int × Unit)) × (Int × Unit))) (k10 : (Int × (Int × (Int × Unit)) × (Int × (Int × Unit)) × Unit) → Bool) (v11 : (Int × (Int × (Int × Unit)) × (Int × (Int × Unit)) × Unit) → ((Int × (Int × Unit)) × (Int × Unit))) (k11 : (Int × (Int × (Int × Unit)) × (Int × (Int × Unit)) × Unit) → Bool) (v12 : (Unit) → Bool) (k12 : (Unit) → Bool) (a0 : Int) (a1 : (Int × (Int × Unit))) (a2 : (Int × (Int × Unit))) : fnT (CxL Try.Θ (kOf [(9, sm [(.pair (.int .u64) (.pair (.int .u64) .unit))] (.pair (.int .u64) (.pair (.int .u64) .unit)) v9 k9), (10, sm [(.int .i64), (.pair (.int .u64) (.pair (.int .u64) .unit)), (.pair (.int .u64) (.pair (.int .u64) .unit))] (.tup (.pair (.int .u64) (.pair (.int .u64) .unit)) (.tup (.int .i64) .tnil)) v10 k10), (11, sm [(.int .i64), (.pair (.int .u64) (.pair (.int .u64) .unit)), (.pair (.int .u64) (.pair (.int .u64) .unit))] (.tup (.pair (.int .u64) (.pair (.int .u64) .unit)) (.tup (.int .i64) .tnil)) v11 k11), (12, sm [] .bool v12 k12)]) (lOf [])) Try.f3 .bool [⟨(.int .i64), a0⟩, ⟨(.pair (.int .u64) (.pair (.int .u64) .unit)), a1⟩, ⟨(.pair (.int .u64) (.pair (.int .u64) .unit)), a2⟩] = S3 v9 k9 v10 k10 v11 k11 v12 k12 a0 a1 a2 := by kernel_rfl
noncomputable def S13  (a0 : (Int × (Int × Unit))) (a1 : Int) : Option Int :=
  some (ior .u64 a0.1 (iand .u64 a1 a0.2.1))
theorem t13  (a0 : (Int × (Int × Unit))) (a1 : Int) : fnT (CxL Try.Θ (kOf []) (lOf [])) Try.f13 (.int .u64) [⟨(.pair (.int .u64) (.pair (.int .u64) .unit)), a0⟩, ⟨(.int .u64), a1⟩] = S13  a0 a1 := by kernel_rfl
noncomputable def S39  (a0 : Int) : Option Int :=
  some (iand .u64 a0 4294967295)
theorem t39  (a0 : Int) : fnT (CxL Try.Θ (kOf []) (lOf [])) Try.f39 (.int .u64) [⟨(.int .u64), a0⟩] = S39  a0 := by kernel_rfl
noncomputable def S40  (a0 : Bool) (a1 : Bool) (a2 : Bool) (a3 : Int) (a4 : Int) : Option Int :=
  (bif (decide (a4 = 0)) then
    (bif a0 then some a3 else some 0)
  else
    (bif (!a1) then
      (bif a0 then
        (bif (tt 1 (!(decide (a4 = 0)))) then some (Int.tmod a3 a4) else none)
      else
        (bif (tt 1 (!(decide (a4 = 0)))) then some (IntKind.wrap .u64 (Int.tdiv a3 a4)) else none))
    else
      (bif (!a2) then
        (bif (decide ((IntKind.wrap .i64 (IntKind.wrap .i32 a4)) = (-1))) then
          (bif a0 then some 0 else some (IntKind.wrap .u64 (IntKind.wrap .i64 (0 - (IntKind.wrap .i64 (IntKind.wrap .i32 a3))))))
        else
          (bif a0 then
            (bif (tt 1 (!(decide ((IntKind.wrap .i64 (IntKind.wrap .i32 a4)) = 0)))) then some (IntKind.wrap .u64 (Int.tmod (IntKind.wrap .i64 (IntKind.wrap .i32 a3)) (IntKind.wrap .i64 (IntKind.wrap .i32 a4)))) else none)
          else
            (bif (tt 1 (!(decide ((IntKind.wrap .i64 (IntKind.wrap .i32 a4)) = 0)))) then some (IntKind.wrap .u64 (IntKind.wrap .i64 (Int.tdiv (IntKind.wrap .i64 (IntKind.wrap .i32 a3)) (IntKind.wrap .i64 (IntKind.wrap .i32 a4))))) else none)))
      else
        (bif (decide ((IntKind.wrap .i64 a4) = (-1))) then
          (bif a0 then some 0 else some (IntKind.wrap .u64 (IntKind.wrap .i64 (0 - (IntKind.wrap .i64 a3)))))
        else
          (bif a0 then
            (bif (tt 1 (!(decide ((IntKind.wrap .i64 a4) = 0)))) then some (IntKind.wrap .u64 (Int.tmod (IntKind.wrap .i64 a3) (IntKind.wrap .i64 a4))) else none)
          else
            (bif (tt 1 (!(decide ((IntKind.wrap .i64 a4) = 0)))) then some (IntKind.wrap .u64 (IntKind.wrap .i64 (Int.tdiv (IntKind.wrap .i64 a3) (IntKind.wrap .i64 a4)))) else none))))))
theorem t40  (a0 : Bool) (a1 : Bool) (a2 : Bool) (a3 : Int) (a4 : Int) : fnT (CxL Try.Θ (kOf []) (lOf [])) Try.f40 (.int .u64) [⟨.bool, a0⟩, ⟨.bool, a1⟩, ⟨.bool, a2⟩, ⟨(.int .u64), a3⟩, ⟨(.int .u64), a4⟩] = S40  a0 a1 a2 a3 a4 := by kernel_rfl
noncomputable def S14 (v39 : (Int × Unit) → Int) (k39 : (Int × Unit) → Bool) (v40 : (Bool × Bool × Bool × Int × Int × Unit) → Int) (k40 : (Bool × Bool × Bool × Int × Int × Unit) → Bool) (a0 : Int) (a1 : Bool) (a2 : Bool) (a3 : Int) (a4 : Int) : Option (Int × (Int × Unit)) :=
  (bif a2 then
    (bif (!(decide (a0 = 48))) then
      (bif (!(decide (a0 = 144))) then
        some (0, 1, ())
      else
        (bif (!a1) then
          (bif (!a1) then
            (bif (decide (a0 = 0)) then
              (bif (!a1) then
                (bif ((k39 ((IntKind.wrap .u64 ((v39 (a3, ())) + (v39 (a4, ())))), ())) && ((k39 (a4, ())) && (tt 1 (k39 (a3, ()))))) then some ((v39 ((IntKind.wrap .u64 ((v39 (a3, ())) + (v39 (a4, ())))), ())), 0, ()) else none)
              else
                (bif ((k39 (a4, ())) && (tt 1 (k39 (a3, ())))) then some ((IntKind.wrap .u64 ((v39 (a3, ())) + (v39 (a4, ())))), 0, ()) else none))
            else
              (bif (decide (a0 = 16)) then
                (bif (!a1) then
                  (bif ((k39 ((IntKind.wrap .u64 ((v39 (a3, ())) - (v39 (a4, ())))), ())) && ((k39 (a4, ())) && (tt 1 (k39 (a3, ()))))) then some ((v39 ((IntKind.wrap .u64 ((v39 (a3, ())) - (v39 (a4, ())))), ())), 0, ()) else none)
                else
                  (bif ((k39 (a4, ())) && (tt 1 (k39 (a3, ())))) then some ((IntKind.wrap .u64 ((v39 (a3, ())) - (v39 (a4, ())))), 0, ()) else none))
              else
                (bif (decide (a0 = 32)) then
                  (bif (!a1) then
                    (bif ((k39 ((IntKind.wrap .u64 ((v39 (a3, ())) * (v39 (a4, ())))), ())) && ((k39 (a4, ())) && (tt 1 (k39 (a3, ()))))) then some ((v39 ((IntKind.wrap .u64 ((v39 (a3, ())) * (v39 (a4, ())))), ())), 0, ()) else none)
                  else
                    (bif ((k39 (a4, ())) && (tt 1 (k39 (a3, ())))) then some ((IntKind.wrap .u64 ((v39 (a3, ())) * (v39 (a4, ())))), 0, ()) else none))
                else
                  (bif (decide (a0 = 48)) then
                    (bif (!a1) then
                      (bif ((k39 ((v40 (false, a2, a1, (v39 (a3, ())), (v39 (a4, ())), ())), ())) && ((k40 (false, a2, a1, (v39 (a3, ())), (v39 (a4, ())), ())) && ((k39 (a4, ())) && (tt 1 (k39 (a3, ())))))) then some ((v39 ((v40 (false, a2, a1, (v39 (a3, ())), (v39 (a4, ())), ())), ())), 0, ()) else none)
                    else
                      (bif ((k40 (false, a2, a1, (v39 (a3, ())), (v39 (a4, ())), ())) && ((k39 (a4, ())) && (tt 1 (k39 (a3, ()))))) then some ((v40 (false, a2, a1, (v39 (a3, ())), (v39 (a4, ())), ())), 0, ()) else none))
                  else
                    (bif (decide (a0 = 64)) then
                      (bif (!a1) then
                        (bif ((k39 ((ior .u64 (v39 (a3, ())) (v39 (a4, ()))), ())) && ((k39 (a4, ())) && (tt 1 (k39 (a3, ()))))) then some ((v39 ((ior .u64 (v39 (a3, ())) (v39 (a4, ()))), ())), 0, ()) else none)
                      else
                        (bif ((k39 (a4, ())) && (tt 1 (k39 (a3, ())))) then some ((ior .u64 (v39 (a3, ())) (v39 (a4, ()))), 0, ()) else none))
                    else
                      (bif (decide (a0 = 80)) then
                        (bif (!a1) then
                          (bif ((k39 ((iand .u64 (v39 (a3, ())) (v39 (a4, ()))), ())) && ((k39 (a4, ())) && (tt 1 (k39 (a3, ()))))) then some ((v39 ((iand .u64 (v39 (a3, ())) (v39 (a4, ()))), ())), 0, ()) else none)
                        else
                          (bif ((k39 (a4, ())) && (tt 1 (k39 (a3, ())))) then some ((iand .u64 (v39 (a3, ())) (v39 (a4, ()))), 0, ()) else none))
                      else
                        (bif (decide (a0 = 96)) then
                          (bif (!a1) then
                            (bif ((k39 ((ishl .u64 (v39 (a3, ())) (iand .u64 (v39 (a4, ())) 31)), ())) && ((decide (0 ≤ (iand .u64 (v39 (a4, ())) 31))) && ((k39 (a4, ())) && (tt 1 (k39 (a3, ())))))) then some ((v39 ((ishl .u64 (v39 (a3, ())) (iand .u64 (v39 (a4, ())) 31)), ())), 0, ()) else none)
                          else
                            (bif ((decide (0 ≤ (iand .u64 (v39 (a4, ())) 31))) && ((k39 (a4, ())) && (tt 1 (k39 (a3, ()))))) then some ((ishl .u64 (v39 (a3, ())) (iand .u64 (v39 (a4, ())) 31)), 0, ()) else none))
                        else
                          (bif (decide (a0 = 112)) then
                            (bif (!a1) then
                              (bif ((k39 ((ishr .u64 (v39 (a3, ())) (iand .u64 (v39 (a4, ())) 31)), ())) && ((decide (0 ≤ (iand .u64 (v39 (a4, ())) 31))) && ((k39 (a4, ())) && (tt 1 (k39 (a3, ())))))) then some ((v39 ((ishr .u64 (v39 (a3, ())) (iand .u64 (v39 (a4, ())) 31)), ())), 0, ()) else none)
                            else
                              (bif ((decide (0 ≤ (iand .u64 (v39 (a4, ())) 31))) && ((k39 (a4, ())) && (tt 1 (k39 (a3, ()))))) then some ((ishr .u64 (v39 (a3, ())) (iand .u64 (v39 (a4, ())) 31)), 0, ()) else none))
                          else
                            (bif (decide (a0 = 128)) then
                              (bif (!a1) then
                                (bif ((k39 ((IntKind.wrap .u64 (0 - (v39 (a3, ())))), ())) && ((k39 (a4, ())) && (tt 1 (k39 (a3, ()))))) then some ((v39 ((IntKind.wrap .u64 (0 - (v39 (a3, ())))), ())), 0, ()) else none)
                              else
                                (bif ((k39 (a4, ())) && (tt 1 (k39 (a3, ())))) then some ((IntKind.wrap .u64 (0 - (v39 (a3, ())))), 0, ()) else none))
                            else
                              (bif (decide (a0 = 144)) then
                                (bif (!a1) then
                                  (bif ((k39 ((v40 (true, a2, a1, (v39 (a3, ())), (v39 (a4, ())), ())), ())) && ((k40 (true, a2, a1, (v39 (a3, ())), (v39 (a4, ())), ())) && ((k39 (a4, ())) && (tt 1 (k39 (a3, ())))))) then some ((v39 ((v40 (true, a2, a1, (v39 (a3, ())), (v39 (a4, ())), ())), ())), 0, ()) else none)
                                else
                                  (bif ((k40 (true, a2, a1, (v39 (a3, ())), (v39 (a4, ())), ())) && ((k39 (a4, ())) && (tt 1 (k39 (a3, ()))))) then some ((v40 (true, a2, a1, (v39 (a3, ())), (v39 (a4, ())), ())), 0, ()) else none))
                              else
                                (bif (decide (a0 = 160)) then
                                  (bif (!a1) then
                                    (bif ((k39 ((ixor .u64 (v39 (a3, ())) (v39 (a4, ()))), ())) && ((k39 (a4, ())) && (tt 1 (k39 (a3, ()))))) then some ((v39 ((ixor .u64 (v39 (a3, ())) (v39 (a4, ()))), ())), 0, ()) else none)
                                  else
                                    (bif ((k39 (a4, ())) && (tt 1 (k39 (a3, ())))) then some ((ixor .u64 (v39 (a3, ())) (v39 (a4, ()))), 0, ()) else none))
                                else
                                  (bif (decide (a0 = 176)) then
                                    (bif (!a1) then
                                      (bif ((k39 ((v39 (a4, ())), ())) && ((k39 (a4, ())) && (tt 1 (k39 (a3, ()))))) then some ((v39 ((v39 (a4, ())), ())), 0, ()) else none)
                                    else
                                      (bif ((k39 (a4, ())) && (tt 1 (k39 (a3, ())))) then some ((v39 (a4, ())), 0, ()) else none))
                                  else
                                    (bif (decide (a0 = 192)) then
                                      (bif (!a1) then
                                        (bif (!a1) then
                                          (bif ((k39 ((IntKind.wrap .u64 (ishr .i64 (IntKind.wrap .i64 (IntKind.wrap .i32 (v39 (a3, ())))) (iand .u64 (v39 (a4, ())) 31))), ())) && ((decide (0 ≤ (iand .u64 (v39 (a4, ())) 31))) && ((decide (0 ≤ (iand .u64 (v39 (a4, ())) 31))) && ((k39 (a4, ())) && (tt 1 (k39 (a3, ()))))))) then some ((v39 ((IntKind.wrap .u64 (ishr .i64 (IntKind.wrap .i64 (IntKind.wrap .i32 (v39 (a3, ())))) (iand .u64 (v39 (a4, ())) 31))), ())), 0, ()) else none)
                                        else
                                          (bif ((decide (0 ≤ (iand .u64 (v39 (a4, ())) 31))) && ((decide (0 ≤ (iand .u64 (v39 (a4, ())) 31))) && ((k39 (a4, ())) && (tt 1 (k39 (a3, ())))))) then some ((IntKind.wrap .u64 (ishr .i64 (IntKind.wrap .i64 (IntKind.wrap .i32 (v39 (a3, ())))) (iand .u64 (v39 (a4, ())) 31))), 0, ()) else none))
                                      else
                                        (bif (!a1) then
                                          (bif ((k39 ((IntKind.wrap .u64 (ishr .i64 (IntKind.wrap .i64 (v39 (a3, ()))) (iand .u64 (v39 (a4, ())) 31))), ())) && ((decide (0 ≤ (iand .u64 (v39 (a4, ())) 31))) && ((k39 (a4, ())) && (tt 1 (k39 (a3, ())))))) then some ((v39 ((IntKind.wrap .u64 (ishr .i64 (IntKind.wrap .i64 (v39 (a3, ()))) (iand .u64 (v39 (a4, ())) 31))), ())), 0, ()) else none)
                                        else
                                          (bif ((decide (0 ≤ (iand .u64 (v39 (a4, ())) 31))) && ((k39 (a4, ())) && (tt 1 (k39 (a3, ()))))) then some ((IntKind.wrap .u64 (ishr .i64 (IntKind.wrap .i64 (v39 (a3, ()))) (iand .u64 (v39 (a4, ())) 31))), 0, ()) else none)))
                                    else
                                      (bif ((k39 (a4, ())) && (tt 1 (k39 (a3, ())))) then some (0, 1, ()) else none))))))))))))))
          else
            (bif (decide (a0 = 0)) then
              (bif (!a1) then
                (bif ((k39 ((IntKind.wrap .u64 ((v39 (a3, ())) + (v39 (a4, ())))), ())) && ((k39 (a4, ())) && (tt 1 (k39 (a3, ()))))) then some ((v39 ((IntKind.wrap .u64 ((v39 (a3, ())) + (v39 (a4, ())))), ())), 0, ()) else none)
              else
                (bif ((k39 (a4, ())) && (tt 1 (k39 (a3, ())))) then some ((IntKind.wrap .u64 ((v39 (a3, ())) + (v39 (a4, ())))), 0, ()) else none))
            else
              (bif (decide (a0 = 16)) then
                (bif (!a1) then
                  (bif ((k39 ((IntKind.wrap .u64 ((v39 (a3, ())) - (v39 (a4, ())))), ())) && ((k39 (a4, ())) && (tt 1 (k39 (a3, ()))))) then some ((v39 ((IntKind.wrap .u64 ((v39 (a3, ())) - (v39 (a4, ())))), ())), 0, ()) else none)
                else
                  (bif ((k39 (a4, ())) && (tt 1 (k39 (a3, ())))) then some ((IntKind.wrap .u64 ((v39 (a3, ())) - (v39 (a4, ())))), 0, ()) else none))
              else
                (bif (decide (a0 = 32)) then
                  (bif (!a1) then
                    (bif ((k39 ((IntKind.wrap .u64 ((v39 (a3, ())) * (v39 (a4, ())))), ())) && ((k39 (a4, ())) && (tt 1 (k39 (a3, ()))))) then some ((v39 ((IntKind.wrap .u64 ((v39 (a3, ())) * (v39 (a4, ())))), ())), 0, ()) else none)
                  else
                    (bif ((k39 (a4, ())) && (tt 1 (k39 (a3, ())))) then some ((IntKind.wrap .u64 ((v39 (a3, ())) * (v39 (a4, ())))), 0, ()) else none))
                else
                  (bif (decide (a0 = 48)) then
                    (bif (!a1) then
                      (bif ((k39 ((v40 (false, a2, a1, (v39 (a3, ())), (v39 (a4, ())), ())), ())) && ((k40 (false, a2, a1, (v39 (a3, ())), (v39 (a4, ())), ())) && ((k39 (a4, ())) && (tt 1 (k39 (a3, ())))))) then some ((v39 ((v40 (false, a2, a1, (v39 (a3, ())), (v39 (a4, ())), ())), ())), 0, ()) else none)
                    else
                      (bif ((k40 (false, a2, a1, (v39 (a3, ())), (v39 (a4, ())), ())) && ((k39 (a4, ())) && (tt 1 (k39 (a3, ()))))) then some ((v40 (false, a2, a1, (v39 (a3, ())), (v39 (a4, ())), ())), 0, ()) else none))
                  else
                    (bif (decide (a0 = 64)) then
                      (bif (!a1) then
                        (bif ((k39 ((ior .u64 (v39 (a3, ())) (v39 (a4, ()))), ())) && ((k39 (a4, ())) && (tt 1 (k39 (a3, ()))))) then some ((v39 ((ior .u64 (v39 (a3, ())) (v39 (a4, ()))), ())), 0, ()) else none)
                      else
                        (bif ((k39 (a4, ())) && (tt 1 (k39 (a3, ())))) then some ((ior .u64 (v39 (a3, ())) (v39 (a4, ()))), 0, ()) else none))
                    else
                      (bif (decide (a0 = 80)) then
                        (bif (!a1) then
                          (bif ((k39 ((iand .u64 (v39 (a3, ())) (v39 (a4, ()))), ())) && ((k39 (a4, ())) && (tt 1 (k39 (a3, ()))))) then some ((v39 ((iand .u64 (v39 (a3, ())) (v39 (a4, ()))), ())), 0, ()) else none)
                        else
                          (bif ((k39 (a4, ())) && (tt 1 (k39 (a3, ())))) then some ((iand .u64 (v39 (a3, ())) (v39 (a4, ()))), 0, ()) else none))
                      else
                        (bif (decide (a0 = 96)) then
                          (bif (!a1) then
                            (bif ((k39 ((ishl .u64 (v39 (a3, ())) (iand .u64 (v39 (a4, ())) 63)), ())) && ((decide (0 ≤ (iand .u64 (v39 (a4, ())) 63))) && ((k39 (a4, ())) && (tt 1 (k39 (a3, ())))))) then some ((v39 ((ishl .u64 (v39 (a3, ())) (iand .u64 (v39 (a4, ())) 63)), ())), 0, ()) else none)
                          else
                            (bif ((decide (0 ≤ (iand .u64 (v39 (a4, ())) 63))) && ((k39 (a4, ())) && (tt 1 (k39 (a3, ()))))) then some ((ishl .u64 (v39 (a3, ())) (iand .u64 (v39 (a4, ())) 63)), 0, ()) else none))
                        else
                          (bif (decide (a0 = 112)) then
                            (bif (!a1) then
                              (bif ((k39 ((ishr .u64 (v39 (a3, ())) (iand .u64 (v39 (a4, ())) 63)), ())) && ((decide (0 ≤ (iand .u64 (v39 (a4, ())) 63))) && ((k39 (a4, ())) && (tt 1 (k39 (a3, ())))))) then some ((v39 ((ishr .u64 (v39 (a3, ())) (iand .u64 (v39 (a4, ())) 63)), ())), 0, ()) else none)
                            else
                              (bif ((decide (0 ≤ (iand .u64 (v39 (a4, ())) 63))) && ((k39 (a4, ())) && (tt 1 (k39 (a3, ()))))) then some ((ishr .u64 (v39 (a3, ())) (iand .u64 (v39 (a4, ())) 63)), 0, ()) else none))
                          else
                            (bif (decide (a0 = 128)) then
                              (bif (!a1) then
                                (bif ((k39 ((IntKind.wrap .u64 (0 - (v39 (a3, ())))), ())) && ((k39 (a4, ())) && (tt 1 (k39 (a3, ()))))) then some ((v39 ((IntKind.wrap .u64 (0 - (v39 (a3, ())))), ())), 0, ()) else none)
                              else
                                (bif ((k39 (a4, ())) && (tt 1 (k39 (a3, ())))) then some ((IntKind.wrap .u64 (0 - (v39 (a3, ())))), 0, ()) else none))
                            else
                              (bif (decide (a0 = 144)) then
                                (bif (!a1) then
                                  (bif ((k39 ((v40 (true, a2, a1, (v39 (a3, ())), (v39 (a4, ())), ())), ())) && ((k40 (true, a2, a1, (v39 (a3, ())), (v39 (a4, ())), ())) && ((k39 (a4, ())) && (tt 1 (k39 (a3, ())))))) then some ((v39 ((v40 (true, a2, a1, (v39 (a3, ())), (v39 (a4, ())), ())), ())), 0, ()) else none)
                                else
                                  (bif ((k40 (true, a2, a1, (v39 (a3, ())), (v39 (a4, ())), ())) && ((k39 (a4, ())) && (tt 1 (k39 (a3, ()))))) then some ((v40 (true, a2, a1, (v39 (a3, ())), (v39 (a4, ())), ())), 0, ()) else none))
                              else
                                (bif (decide (a0 = 160)) then
                                  (bif (!a1) then
                                    (bif ((k39 ((ixor .u64 (v39 (a3, ())) (v39 (a4, ()))), ())) && ((k39 (a4, ())) && (tt 1 (k39 (a3, ()))))) then some ((v39 ((ixor .u64 (v39 (a3, ())) (v39 (a4, ()))), ())), 0, ()) else none)
                                  else
                                    (bif ((k39 (a4, ())) && (tt 1 (k39 (a3, ())))) then some ((ixor .u64 (v39 (a3, ())) (v39 (a4, ()))), 0, ()) else none))
                                else
                                  (bif (decide (a0 = 176)) then
                                    (bif (!a1) then
                                      (bif ((k39 ((v39 (a4, ())), ())) && ((k39 (a4, ())) && (tt 1 (k39 (a3, ()))))) then some ((v39 ((v39 (a4, ())), ())), 0, ()) else none)
                                    else
                                      (bif ((k39 (a4, ())) && (tt 1 (k39 (a3, ())))) then some ((v39 (a4, ())), 0, ()) else none))
                                  else
                                    (bif (decide (a0 = 192)) then
                                      (bif (!a1) then
                                        (bif (!a1) then
                                          (bif ((k39 ((IntKind.wrap .u64 (ishr .i64 (IntKind.wrap .i64 (IntKind.wrap .i32 (v39 (a3, ())))) (iand .u64 (v39 (a4, ())) 63))), ())) && ((decide (0 ≤ (iand .u64 (v39 (a4, ())) 63))) && ((decide (0 ≤ (iand .u64 (v39 (a4, ())) 63))) && ((k39 (a4, ())) && (tt 1 (k39 (a3, ()))))))) then some ((v39 ((IntKind.wrap .u64 (ishr .i64 (IntKind.wrap .i64 (IntKind.wrap .i32 (v39 (a3, ())))) (iand .u64 (v39 (a4, ())) 63))), ())), 0, ()) else none)
                                        else
                                          (bif ((decide (0 ≤ (iand .u64 (v39 (a4, ())) 63))) && ((decide (0 ≤ (iand .u64 (v39 (a4, ())) 63))) && ((k39 (a4, ())) && (tt 1 (k39 (a3, ())))))) then some ((IntKind.wrap .u64 (ishr .i64 (IntKind.wrap .i64 (IntKind.wrap .i32 (v39 (a3, ())))) (iand .u64 (v39 (a4, ())) 63))), 0, ()) else none))
                                      else
                                        (bif (!a1) then
                                          (bif ((k39 ((IntKind.wrap .u64 (ishr .i64 (IntKind.wrap .i64 (v39 (a3, ()))) (iand .u64 (v39 (a4, ())) 63))), ())) && ((decide (0 ≤ (iand .u64 (v39 (a4, ())) 63))) && ((k39 (a4, ())) && (tt 1 (k39 (a3, ())))))) then some ((v39 ((IntKind.wrap .u64 (ishr .i64 (IntKind.wrap .i64 (v39 (a3, ()))) (iand .u64 (v39 (a4, ())) 63))), ())), 0, ()) else none)
                                        else
                                          (bif ((decide (0 ≤ (iand .u64 (v39 (a4, ())) 63))) && ((k39 (a4, ())) && (tt 1 (k39 (a3, ()))))) then some ((IntKind.wrap .u64 (ishr .i64 (IntKind.wrap .i64 (v39 (a3, ()))) (iand .u64 (v39 (a4, ())) 63))), 0, ()) else none)))
                                    else
                                      (bif ((k39 (a4, ())) && (tt 1 (k39 (a3, ())))) then some (0, 1, ()) else none)))))))))))))))
        else
          (bif (!a1) then
            (bif (decide (a0 = 0)) then
              (bif (!a1) then
                (bif (tt 1 (k39 ((IntKind.wrap .u64 (a3 + a4)), ()))) then some ((v39 ((IntKind.wrap .u64 (a3 + a4)), ())), 0, ()) else none)
              else
                some ((IntKind.wrap .u64 (a3 + a4)), 0, ()))
            else
              (bif (decide (a0 = 16)) then
                (bif (!a1) then
                  (bif (tt 1 (k39 ((IntKind.wrap .u64 (a3 - a4)), ()))) then some ((v39 ((IntKind.wrap .u64 (a3 - a4)), ())), 0, ()) else none)
                else
                  some ((IntKind.wrap .u64 (a3 - a4)), 0, ()))
              else
                (bif (decide (a0 = 32)) then
                  (bif (!a1) then
                    (bif (tt 1 (k39 ((IntKind.wrap .u64 (a3 * a4)), ()))) then some ((v39 ((IntKind.wrap .u64 (a3 * a4)), ())), 0, ()) else none)
                  else
                    some ((IntKind.wrap .u64 (a3 * a4)), 0, ()))
                else
                  (bif (decide (a0 = 48)) then
                    (bif (!a1) then
                      (bif ((k39 ((v40 (false, a2, a1, a3, a4, ())), ())) && (tt 1 (k40 (false, a2, a1, a3, a4, ())))) then some ((v39 ((v40 (false, a2, a1, a3, a4, ())), ())), 0, ()) else none)
                    else
                      (bif (tt 1 (k40 (false, a2, a1, a3, a4, ()))) then some ((v40 (false, a2, a1, a3, a4, ())), 0, ()) else none))
                  else
                    (bif (decide (a0 = 64)) then
                      (bif (!a1) then
                        (bif (tt 1 (k39 ((ior .u64 a3 a4), ()))) then some ((v39 ((ior .u64 a3 a4), ())), 0, ()) else none)
                      else
                        some ((ior .u64 a3 a4), 0, ()))
                    else
                      (bif (decide (a0 = 80)) then
                        (bif (!a1) then
                          (bif (tt 1 (k39 ((iand .u64 a3 a4), ()))) then some ((v39 ((iand .u64 a3 a4), ())), 0, ()) else none)
                        else
                          some ((iand .u64 a3 a4), 0, ()))
                      else
                        (bif (decide (a0 = 96)) then
                          (bif (!a1) then
                            (bif ((k39 ((ishl .u64 a3 (iand .u64 a4 31)), ())) && (tt 1 (decide (0 ≤ (iand .u64 a4 31))))) then some ((v39 ((ishl .u64 a3 (iand .u64 a4 31)), ())), 0, ()) else none)
                          else
                            (bif (tt 1 (decide (0 ≤ (iand .u64 a4 31)))) then some ((ishl .u64 a3 (iand .u64 a4 31)), 0, ()) else none))
                        else
                          (bif (decide (a0 = 112)) then
                            (bif (!a1) then
                              (bif ((k39 ((ishr .u64 a3 (iand .u64 a4 31)), ())) && (tt 1 (decide (0 ≤ (iand .u64 a4 31))))) then some ((v39 ((ishr .u64 a3 (iand .u64 a4 31)), ())), 0, ()) else none)
                            else
                              (bif (tt 1 (decide (0 ≤ (iand .u64 a4 31)))) then some ((ishr .u64 a3 (iand .u64 a4 31)), 0, ()) else none))
                          else
                            (bif (decide (a0 = 128)) then
                              (bif (!a1) then
                                (bif (tt 1 (k39 ((IntKind.wrap .u64 (0 - a3)), ()))) then some ((v39 ((IntKind.wrap .u64 (0 - a3)), ())), 0, ()) else none)
                              else
                                some ((IntKind.wrap .u64 (0 - a3)), 0, ()))
                            else
                              (bif (decide (a0 = 144)) then
                                (bif (!a1) then
                                  (bif ((k39 ((v40 (true, a2, a1, a3, a4, ())), ())) && (tt 1 (k40 (true, a2, a1, a3, a4, ())))) then some ((v39 ((v40 (true, a2, a1, a3, a4, ())), ())), 0, ()) else none)
                                else
                                  (bif (tt 1 (k40 (true, a2, a1, a3, a4, ()))) then some ((v40 (true, a2, a1, a3, a4, ())), 0, ()) else none))
                              else
                                (bif (decide (a0 = 160)) then
                                  (bif (!a1) then
                                    (bif (tt 1 (k39 ((ixor .u64 a3 a4), ()))) then some ((v39 ((ixor .u64 a3 a4), ())), 0, ()) else none)
                                  else
                                    some ((ixor .u64 a3 a4), 0, ()))
                                else
                                  (bif (decide (a0 = 176)) then
                                    (bif (!a1) then (bif (tt 1 (k39 (a4, ()))) then some ((v39 (a4, ())), 0, ()) else none) else some (a4, 0, ()))
                                  else
                                    (bif (decide (a0 = 192)) then
                                      (bif (!a1) then
                                        (bif (!a1) then
                                          (bif ((k39 ((IntKind.wrap .u64 (ishr .i64 (IntKind.wrap .i64 (IntKind.wrap .i32 a3)) (iand .u64 a4 31))), ())) && ((decide (0 ≤ (iand .u64 a4 31))) && (tt 1 (decide (0 ≤ (iand .u64 a4 31)))))) then some ((v39 ((IntKind.wrap .u64 (ishr .i64 (IntKind.wrap .i64 (IntKind.wrap .i32 a3)) (iand .u64 a4 31))), ())), 0, ()) else none)
                                        else
                                          (bif ((decide (0 ≤ (iand .u64 a4 31))) && (tt 1 (decide (0 ≤ (iand .u64 a4 31))))) then some ((IntKind.wrap .u64 (ishr .i64 (IntKind.wrap .i64 (IntKind.wrap .i32 a3)) (iand .u64 a4 31))), 0, ()) else none))
                                      else
                                        (bif (!a1) then
                                          (bif ((k39 ((IntKind.wrap .u64 (ishr .i64 (IntKind.wrap .i64 a3) (iand .u64 a4 31))), ())) && (tt 1 (decide (0 ≤ (iand .u64 a4 31))))) then some ((v39 ((IntKind.wrap .u64 (ishr .i64 (IntKind.wrap .i64 a3) (iand .u64 a4 31))), ())), 0, ()) else none)
                                        else
                                          (bif (tt 1 (decide (0 ≤ (iand .u64 a4 31)))) then some ((IntKind.wrap .u64 (ishr .i64 (IntKind.wrap .i64 a3) (iand .u64 a4 31))), 0, ()) else none)))
                                    else
                                      some (0, 1, ()))))))))))))))
          else
            (bif (decide (a0 = 0)) then
              (bif (!a1) then
                (bif (tt 1 (k39 ((IntKind.wrap .u64 (a3 + a4)), ()))) then some ((v39 ((IntKind.wrap .u64 (a3 + a4)), ())), 0, ()) else none)
              else
                some ((IntKind.wrap .u64 (a3 + a4)), 0, ()))
            else
              (bif (decide (a0 = 16)) then
                (bif (!a1) then
                  (bif (tt 1 (k39 ((IntKind.wrap .u64 (a3 - a4)), ()))) then some ((v39 ((IntKind.wrap .u64 (a3 - a4)), ())), 0, ()) else none)
                else
                  some ((IntKind.wrap .u64 (a3 - a4)), 0, ()))
              else
                (bif (decide (a0 = 32)) then
                  (bif (!a1) then
                    (bif (tt 1 (k39 ((IntKind.wrap .u64 (a3 * a4)), ()))) then some ((v39 ((IntKind.wrap .u64 (a3 * a4)), ())), 0, ()) else none)
                  else
                    some ((IntKind.wrap .u64 (a3 * a4)), 0, ()))
                else
                  (bif (decide (a0 = 48)) then
                    (bif (!a1) then
                      (bif ((k39 ((v40 (false, a2, a1, a3, a4, ())), ())) && (tt 1 (k40 (false, a2, a1, a3, a4, ())))) then some ((v39 ((v40 (false, a2, a1, a3, a4, ())), ())), 0, ()) else none)
                    else
                      (bif (tt 1 (k40 (false, a2, a1, a3, a4, ()))) then some ((v40 (false, a2, a1, a3, a4, ())), 0, ()) else none))
                  else
                    (bif (decide (a0 = 64)) then
                      (bif (!a1) then
                        (bif (tt 1 (k39 ((ior .u64 a3 a4), ()))) then some ((v39 ((ior .u64 a3 a4), ())), 0, ()) else none)
                      else
                        some ((ior .u64 a3 a4), 0, ()))
                    else
                      (bif (decide (a0 = 80)) then
                        (bif (!a1) then
                          (bif (tt 1 (k39 ((iand .u64 a3 a4), ()))) then some ((v39 ((iand .u64 a3 a4), ())), 0, ()) else none)
                        else
                          some ((iand .u64 a3 a4), 0, ()))
                      else
                        (bif (decide (a0 = 96)) then
                          (bif (!a1) then
                            (bif ((k39 ((ishl .u64 a3 (iand .u64 a4 63)), ())) && (tt 1 (decide (0 ≤ (iand .u64 a4 63))))) then some ((v39 ((ishl .u64 a3 (iand .u64 a4 63)), ())), 0, ()) else none)
                          else
                            (bif (tt 1 (decide (0 ≤ (iand .u64 a4 63)))) then some ((ishl .u64 a3 (iand .u64 a4 63)), 0, ()) else none))
                        else
                          (bif (decide (a0 = 112)) then
                            (bif (!a1) then
                              (bif ((k39 ((ishr .u64 a3 (iand .u64 a4 63)), ())) && (tt 1 (decide (0 ≤ (iand .u64 a4 63))))) then some ((v39 ((ishr .u64 a3 (iand .u64 a4 63)), ())), 0, ()) else none)
                            else
                              (bif (tt 1 (decide (0 ≤ (iand .u64 a4 63)))) then some ((ishr .u64 a3 (iand .u64 a4 63)), 0, ()) else none))
                          else
                            (bif (decide (a0 = 128)) then
                              (bif (!a1) then
                                (bif (tt 1 (k39 ((IntKind.wrap .u64 (0 - a3)), ()))) then some ((v39 ((IntKind.wrap .u64 (0 - a3)), ())), 0, ()) else none)
                              else
                                some ((IntKind.wrap .u64 (0 - a3)), 0, ()))
                            else
                              (bif (decide (a0 = 144)) then
                                (bif (!a1) then
                                  (bif ((k39 ((v40 (true, a2, a1, a3, a4, ())), ())) && (tt 1 (k40 (true, a2, a1, a3, a4, ())))) then some ((v39 ((v40 (true, a2, a1, a3, a4, ())), ())), 0, ()) else none)
                                else
                                  (bif (tt 1 (k40 (true, a2, a1, a3, a4, ()))) then some ((v40 (true, a2, a1, a3, a4, ())), 0, ()) else none))
                              else
                                (bif (decide (a0 = 160)) then
                                  (bif (!a1) then
                                    (bif (tt 1 (k39 ((ixor .u64 a3 a4), ()))) then some ((v39 ((ixor .u64 a3 a4), ())), 0, ()) else none)
                                  else
                                    some ((ixor .u64 a3 a4), 0, ()))
                                else
                                  (bif (decide (a0 = 176)) then
                                    (bif (!a1) then (bif (tt 1 (k39 (a4, ()))) then some ((v39 (a4, ())), 0, ()) else none) else some (a4, 0, ()))
                                  else
                                    (bif (decide (a0 = 192)) then
                                      (bif (!a1) then
                                        (bif (!a1) then
                                          (bif ((k39 ((IntKind.wrap .u64 (ishr .i64 (IntKind.wrap .i64 (IntKind.wrap .i32 a3)) (iand .u64 a4 63))), ())) && ((decide (0 ≤ (iand .u64 a4 63))) && (tt 1 (decide (0 ≤ (iand .u64 a4 63)))))) then some ((v39 ((IntKind.wrap .u64 (ishr .i64 (IntKind.wrap .i64 (IntKind.wrap .i32 a3)) (iand .u64 a4 63))), ())), 0, ()) else none)
                                        else
                                          (bif ((decide (0 ≤ (iand .u64 a4 63))) && (tt 1 (decide (0 ≤ (iand .u64 a4 63))))) then some ((IntKind.wrap .u64 (ishr .i64 (IntKind.wrap .i64 (IntKind.wrap .i32 a3)) (iand .u64 a4 63))), 0, ()) else none))
                                      else
                                        (bif (!a1) then
                                          (bif ((k39 ((IntKind.wrap .u64 (ishr .i64 (IntKind.wrap .i64 a3) (iand .u64 a4 63))), ())) && (tt 1 (decide (0 ≤ (iand .u64 a4 63))))) then some ((v39 ((IntKind.wrap .u64 (ishr .i64 (IntKind.wrap .i64 a3) (iand .u64 a4 63))), ())), 0, ()) else none)
                                        else
                                          (bif (tt 1 (decide (0 ≤ (iand .u64 a4 63)))) then some ((IntKind.wrap .u64 (ishr .i64 (IntKind.wrap .i64 a3) (iand .u64 a4 63))), 0, ()) else none)))
                                    else
                                      some (0, 1, ())))))))))))))))))
    else
      (bif (!a1) then
        (bif (!a1) then
          (bif (decide (a0 = 0)) then
            (bif (!a1) then
              (bif ((k39 ((IntKind.wrap .u64 ((v39 (a3, ())) + (v39 (a4, ())))), ())) && ((k39 (a4, ())) && (tt 1 (k39 (a3, ()))))) then some ((v39 ((IntKind.wrap .u64 ((v39 (a3, ())) + (v39 (a4, ())))), ())), 0, ()) else none)
            else
              (bif ((k39 (a4, ())) && (tt 1 (k39 (a3, ())))) then some ((IntKind.wrap .u64 ((v39 (a3, ())) + (v39 (a4, ())))), 0, ()) else none))
          else
            (bif (decide (a0 = 16)) then
              (bif (!a1) then
                (bif ((k39 ((IntKind.wrap .u64 ((v39 (a3, ())) - (v39 (a4, ())))), ())) && ((k39 (a4, ())) && (tt 1 (k39 (a3, ()))))) then some ((v39 ((IntKind.wrap .u64 ((v39 (a3, ())) - (v39 (a4, ())))), ())), 0, ()) else none)
              else
                (bif ((k39 (a4, ())) && (tt 1 (k39 (a3, ())))) then some ((IntKind.wrap .u64 ((v39 (a3, ())) - (v39 (a4, ())))), 0, ()) else none))
            else
              (bif (decide (a0 = 32)) then
                (bif (!a1) then
                  (bif ((k39 ((IntKind.wrap .u64 ((v39 (a3, ())) * (v39 (a4, ())))), ())) && ((k39 (a4, ())) && (tt 1 (k39 (a3, ()))))) then some ((v39 ((IntKind.wrap .u64 ((v39 (a3, ())) * (v39 (a4, ())))), ())), 0, ()) else none)
                else
                  (bif ((k39 (a4, ())) && (tt 1 (k39 (a3, ())))) then some ((IntKind.wrap .u64 ((v39 (a3, ())) * (v39 (a4, ())))), 0, ()) else none))
              else
                (bif (decide (a0 = 48)) then
                  (bif (!a1) then
                    (bif ((k39 ((v40 (false, a2, a1, (v39 (a3, ())), (v39 (a4, ())), ())), ())) && ((k40 (false, a2, a1, (v39 (a3, ())), (v39 (a4, ())), ())) && ((k39 (a4, ())) && (tt 1 (k39 (a3, ())))))) then some ((v39 ((v40 (false, a2, a1, (v39 (a3, ())), (v39 (a4, ())), ())), ())), 0, ()) else none)
                  else
                    (bif ((k40 (false, a2, a1, (v39 (a3, ())), (v39 (a4, ())), ())) && ((k39 (a4, ())) && (tt 1 (k39 (a3, ()))))) then some ((v40 (false, a2, a1, (v39 (a3, ())), (v39 (a4, ())), ())), 0, ()) else none))
                else
                  (bif (decide (a0 = 64)) then
                    (bif (!a1) then
                      (bif ((k39 ((ior .u64 (v39 (a3, ())) (v39 (a4, ()))), ())) && ((k39 (a4, ())) && (tt 1 (k39 (a3, ()))))) then some ((v39 ((ior .u64 (v39 (a3, ())) (v39 (a4, ()))), ())), 0, ()) else none)
                    else
                      (bif ((k39 (a4, ())) && (tt 1 (k39 (a3, ())))) then some ((ior .u64 (v39 (a3, ())) (v39 (a4, ()))), 0, ()) else none))
                  else
                    (bif (decide (a0 = 80)) then
                      (bif (!a1) then
                        (bif ((k39 ((iand .u64 (v39 (a3, ())) (v39 (a4, ()))), ())) && ((k39 (a4, ())) && (tt 1 (k39 (a3, ()))))) then some ((v39 ((iand .u64 (v39 (a3, ())) (v39 (a4, ()))), ())), 0, ()) else none)
                      else
                        (bif ((k39 (a4, ())) && (tt 1 (k39 (a3, ())))) then some ((iand .u64 (v39 (a3, ())) (v39 (a4, ()))), 0, ()) else none))
                    else
                      (bif (decide (a0 = 96)) then
                        (bif (!a1) then
                          (bif ((k39 ((ishl .u64 (v39 (a3, ())) (iand .u64 (v39 (a4, ())) 31)), ())) && ((decide (0 ≤ (iand .u64 (v39 (a4, ())) 31))) && ((k39 (a4, ())) && (tt 1 (k39 (a3, ())))))) then some ((v39 ((ishl .u64 (v39 (a3, ())) (iand .u64 (v39 (a4, ())) 31)), ())), 0, ()) else none)
                        else
                          (bif ((decide (0 ≤ (iand .u64 (v39 (a4, ())) 31))) && ((k39 (a4, ())) && (tt 1 (k39 (a3, ()))))) then some ((ishl .u64 (v39 (a3, ())) (iand .u64 (v39 (a4, ())) 31)), 0, ()) else none))
                      else
                        (bif (decide (a0 = 112)) then
                          (bif (!a1) then
                            (bif ((k39 ((ishr .u64 (v39 (a3, ())) (iand .u64 (v39 (a4, ())) 31)), ())) && ((decide (0 ≤ (iand .u64 (v39 (a4, ())) 31))) && ((k39 (a4, ())) && (tt 1 (k39 (a3, ())))))) then some ((v39 ((ishr .u64 (v39 (a3, ())) (iand .u64 (v39 (a4, ())) 31)), ())), 0, ()) else none)
                          else
                            (bif ((decide (0 ≤ (iand .u64 (v39 (a4, ())) 31))) && ((k39 (a4, ())) && (tt 1 (k39 (a3, ()))))) then some ((ishr .u64 (v39 (a3, ())) (iand .u64 (v39 (a4, ())) 31)), 0, ()) else none))
                        else
                          (bif (decide (a0 = 128)) then
                            (bif (!a1) then
                              (bif ((k39 ((IntKind.wrap .u64 (0 - (v39 (a3, ())))), ())) && ((k39 (a4, ())) && (tt 1 (k39 (a3, ()))))) then some ((v39 ((IntKind.wrap .u64 (0 - (v39 (a3, ())))), ())), 0, ()) else none)
                            else
                              (bif ((k39 (a4, ())) && (tt 1 (k39 (a3, ())))) then some ((IntKind.wrap .u64 (0 - (v39 (a3, ())))), 0, ()) else none))
                          else
                            (bif (decide (a0 = 144)) then
                              (bif (!a1) then
                                (bif ((k39 ((v40 (true, a2, a1, (v39 (a3, ())), (v39 (a4, ())), ())), ())) && ((k40 (true, a2, a1, (v39 (a3, ())), (v39 (a4, ())), ())) && ((k39 (a4, ())) && (tt 1 (k39 (a3, ())))))) then some ((v39 ((v40 (true, a2, a1, (v39 (a3, ())), (v39 (a4, ())), ())), ())), 0, ()) else none)
                              else
                                (bif ((k40 (true, a2, a1, (v39 (a3, ())), (v39 (a4, ())), ())) && ((k39 (a4, ())) && (tt 1 (k39 (a3, ()))))) then some ((v40 (true, a2, a1, (v39 (a3, ())), (v39 (a4, ())), ())), 0, ()) else none))
                            else
                              (bif (decide (a0 = 160)) then
                                (bif (!a1) then
                                  (bif ((k39 ((ixor .u64 (v39 (a3, ())) (v39 (a4, ()))), ())) && ((k39 (a4, ())) && (tt 1 (k39 (a3, ()))))) then some ((v39 ((ixor .u64 (v39 (a3, ())) (v39 (a4, ()))), ())), 0, ()) else none)
                                else
                                  (bif ((k39 (a4, ())) && (tt 1 (k39 (a3, ())))) then some ((ixor .u64 (v39 (a3, ())) (v39 (a4, ()))), 0, ()) else none))
                              else
                                (bif (decide (a0 = 176)) then
                                  (bif (!a1) then
                                    (bif ((k39 ((v39 (a4, ())), ())) && ((k39 (a4, ())) && (tt 1 (k39 (a3, ()))))) then some ((v39 ((v39 (a4, ())), ())), 0, ()) else none)
                                  else
                                    (bif ((k39 (a4, ())) && (tt 1 (k39 (a3, ())))) then some ((v39 (a4, ())), 0, ()) else none))
                                else
                                  (bif (decide (a0 = 192)) then
                                    (bif (!a1) then
                                      (bif (!a1) then
                                        (bif ((k39 ((IntKind.wrap .u64 (ishr .i64 (IntKind.wrap .i64 (IntKind.wrap .i32 (v39 (a3, ())))) (iand .u64 (v39 (a4, ())) 31))), ())) && ((decide (0 ≤ (iand .u64 (v39 (a4, ())) 31))) && ((decide (0 ≤ (iand .u64 (v39 (a4, ())) 31))) && ((k39 (a4, ())) && (tt 1 (k39 (a3, ()))))))) then some ((v39 ((IntKind.wrap .u64 (ishr .i64 (IntKind.wrap .i64 (IntKind.wrap .i32 (v39 (a3, ())))) (iand .u64 (v39 (a4, ())) 31))), ())), 0, ()) else none)
                                      else
                                        (bif ((decide (0 ≤ (iand .u64 (v39 (a4, ())) 31))) && ((decide (0 ≤ (iand .u64 (v39 (a4, ())) 31))) && ((k39 (a4, ())) && (tt 1 (k39 (a3, ())))))) then some ((IntKind.wrap .u64 (ishr .i64 (IntKind.wrap .i64 (IntKind.wrap .i32 (v39 (a3, ())))) (iand .u64 (v39 (a4, ())) 31))), 0, ()) else none))
                                    else
                                      (bif (!a1) then
                                        (bif ((k39 ((IntKind.wrap .u64 (ishr .i64 (IntKind.wrap .i64 (v39 (a3, ()))) (iand .u64 (v39 (a4, ())) 31))), ())) && ((decide (0 ≤ (iand .u64 (v39 (a4, ())) 31))) && ((k39 (a4, ())) && (tt 1 (k39 (a3, ())))))) then some ((v39 ((IntKind.wrap .u64 (ishr .i64 (IntKind.wrap .i64 (v39 (a3, ()))) (iand .u64 (v39 (a4, ())) 31))), ())), 0, ()) else none)
                                      else
                                        (bif ((decide (0 ≤ (iand .u64 (v39 (a4, ())) 31))) && ((k39 (a4, ())) && (tt 1 (k39 (a3, ()))))) then some ((IntKind.wrap .u64 (ishr .i64 (IntKind.wrap .i64 (v39 (a3, ()))) (iand .u64 (v39 (a4, ())) 31))), 0, ()) else none)))
                                  else
                                    (bif ((k39 (a4, ())) && (tt 1 (k39 (a3, ())))) then some (0, 1, ()) else none))))))))))))))
        else
          (bif (decide (a0 = 0)) then
            (bif (!a1) then
              (bif ((k39 ((IntKind.wrap .u64 ((v39 (a3, ())) + (v39 (a4, ())))), ())) && ((k39 (a4, ())) && (tt 1 (k39 (a3, ()))))) then some ((v39 ((IntKind.wrap .u64 ((v39 (a3, ())) + (v39 (a4, ())))), ())), 0, ()) else none)
            else
              (bif ((k39 (a4, ())) && (tt 1 (k39 (a3, ())))) then some ((IntKind.wrap .u64 ((v39 (a3, ())) + (v39 (a4, ())))), 0, ()) else none))
          else
            (bif (decide (a0 = 16)) then
              (bif (!a1) then
                (bif ((k39 ((IntKind.wrap .u64 ((v39 (a3, ())) - (v39 (a4, ())))), ())) && ((k39 (a4, ())) && (tt 1 (k39 (a3, ()))))) then some ((v39 ((IntKind.wrap .u64 ((v39 (a3, ())) - (v39 (a4, ())))), ())), 0, ()) else none)
              else
                (bif ((k39 (a4, ())) && (tt 1 (k39 (a3, ())))) then some ((IntKind.wrap .u64 ((v39 (a3, ())) - (v39 (a4, ())))), 0, ()) else none))
            else
              (bif (decide (a0 = 32)) then
                (bif (!a1) then
                  (bif ((k39 ((IntKind.wrap .u64 ((v39 (a3, ())) * (v39 (a4, ())))), ())) && ((k39 (a4, ())) && (tt 1 (k39 (a3, ()))))) then some ((v39 ((IntKind.wrap .u64 ((v39 (a3, ())) * (v39 (a4, ())))), ())), 0, ()) else none)
                else
                  (bif ((k39 (a4, ())) && (tt 1 (k39 (a3, ())))) then some ((IntKind.wrap .u64 ((v39 (a3, ())) * (v39 (a4, ())))), 0, ()) else none))
              else
                (bif (decide (a0 = 48)) then
                  (bif (!a1) then
                    (bif ((k39 ((v40 (false, a2, a1, (v39 (a3, ())), (v39 (a4, ())), ())), ())) && ((k40 (false, a2, a1, (v39 (a3, ())), (v39 (a4, ())), ())) && ((k39 (a4, ())) && (tt 1 (k39 (a3, ())))))) then some ((v39 ((v40 (false, a2, a1, (v39 (a3, ())), (v39 (a4, ())), ())), ())), 0, ()) else none)
                  else
                    (bif ((k40 (false, a2, a1, (v39 (a3, ())), (v39 (a4, ())), ())) && ((k39 (a4, ())) && (tt 1 (k39 (a3, ()))))) then some ((v40 (false, a2, a1, (v39 (a3, ())), (v39 (a4, ())), ())), 0, ()) else none))
                else
                  (bif (decide (a0 = 64)) then
                    (bif (!a1) then
                      (bif ((k39 ((ior .u64 (v39 (a3, ())) (v39 (a4, ()))), ())) && ((k39 (a4, ())) && (tt 1 (k39 (a3, ()))))) then some ((v39 ((ior .u64 (v39 (a3, ())) (v39 (a4, ()))), ())), 0, ()) else none)
                    else
                      (bif ((k39 (a4, ())) && (tt 1 (k39 (a3, ())))) then some ((ior .u64 (v39 (a3, ())) (v39 (a4, ()))), 0, ()) else none))
                  else
                    (bif (decide (a0 = 80)) then
                      (bif (!a1) then
                        (bif ((k39 ((iand .u64 (v39 (a3, ())) (v39 (a4, ()))), ())) && ((k39 (a4, ())) && (tt 1 (k39 (a3, ()))))) then some ((v39 ((iand .u64 (v39 (a3, ())) (v39 (a4, ()))), ())), 0, ()) else none)
                      else
                        (bif ((k39 (a4, ())) && (tt 1 (k39 (a3, ())))) then some ((iand .u64 (v39 (a3, ())) (v39 (a4, ()))), 0, ()) else none))
                    else
                      (bif (decide (a0 = 96)) then
                        (bif (!a1) then
                          (bif ((k39 ((ishl .u64 (v39 (a3, ())) (iand .u64 (v39 (a4, ())) 63)), ())) && ((decide (0 ≤ (iand .u64 (v39 (a4, ())) 63))) && ((k39 (a4, ())) && (tt 1 (k39 (a3, ())))))) then some ((v39 ((ishl .u64 (v39 (a3, ())) (iand .u64 (v39 (a4, ())) 63)), ())), 0, ()) else none)
                        else
                          (bif ((decide (0 ≤ (iand .u64 (v39 (a4, ())) 63))) && ((k39 (a4, ())) && (tt 1 (k39 (a3, ()))))) then some ((ishl .u64 (v39 (a3, ())) (iand .u64 (v39 (a4, ())) 63)), 0, ()) else none))
                      else
                        (bif (decide (a0 = 112)) then
                          (bif (!a1) then
                            (bif ((k39 ((ishr .u64 (v39 (a3, ())) (iand .u64 (v39 (a4, ())) 63)), ())) && ((decide (0 ≤ (iand .u64 (v39 (a4, ())) 63))) && ((k39 (a4, ())) && (tt 1 (k39 (a3, ())))))) then some ((v39 ((ishr .u64 (v39 (a3, ())) (iand .u64 (v39 (a4, ())) 63)), ())), 0, ()) else none)
                          else
                            (bif ((decide (0 ≤ (iand .u64 (v39 (a4, ())) 63))) && ((k39 (a4, ())) && (tt 1 (k39 (a3, ()))))) then some ((ishr .u64 (v39 (a3, ())) (iand .u64 (v39 (a4, ())) 63)), 0, ()) else none))
                        else
                          (bif (decide (a0 = 128)) then
                            (bif (!a1) then
                              (bif ((k39 ((IntKind.wrap .u64 (0 - (v39 (a3, ())))), ())) && ((k39 (a4, ())) && (tt 1 (k39 (a3, ()))))) then some ((v39 ((IntKind.wrap .u64 (0 - (v39 (a3, ())))), ())), 0, ()) else none)
                            else
                              (bif ((k39 (a4, ())) && (tt 1 (k39 (a3, ())))) then some ((IntKind.wrap .u64 (0 - (v39 (a3, ())))), 0, ()) else none))
                          else
                            (bif (decide (a0 = 144)) then
                              (bif (!a1) then
                                (bif ((k39 ((v40 (true, a2, a1, (v39 (a3, ())), (v39 (a4, ())), ())), ())) && ((k40 (true, a2, a1, (v39 (a3, ())), (v39 (a4, ())), ())) && ((k39 (a4, ())) && (tt 1 (k39 (a3, ())))))) then some ((v39 ((v40 (true, a2, a1, (v39 (a3, ())), (v39 (a4, ())), ())), ())), 0, ()) else none)
                              else
                                (bif ((k40 (true, a2, a1, (v39 (a3, ())), (v39 (a4, ())), ())) && ((k39 (a4, ())) && (tt 1 (k39 (a3, ()))))) then some ((v40 (true, a2, a1, (v39 (a3, ())), (v39 (a4, ())), ())), 0, ()) else none))
                            else
                              (bif (decide (a0 = 160)) then
                                (bif (!a1) then
                                  (bif ((k39 ((ixor .u64 (v39 (a3, ())) (v39 (a4, ()))), ())) && ((k39 (a4, ())) && (tt 1 (k39 (a3, ()))))) then some ((v39 ((ixor .u64 (v39 (a3, ())) (v39 (a4, ()))), ())), 0, ()) else none)
                                else
                                  (bif ((k39 (a4, ())) && (tt 1 (k39 (a3, ())))) then some ((ixor .u64 (v39 (a3, ())) (v39 (a4, ()))), 0, ()) else none))
                              else
                                (bif (decide (a0 = 176)) then
                                  (bif (!a1) then
                                    (bif ((k39 ((v39 (a4, ())), ())) && ((k39 (a4, ())) && (tt 1 (k39 (a3, ()))))) then some ((v39 ((v39 (a4, ())), ())), 0, ()) else none)
                                  else
                                    (bif ((k39 (a4, ())) && (tt 1 (k39 (a3, ())))) then some ((v39 (a4, ())), 0, ()) else none))
                                else
                                  (bif (decide (a0 = 192)) then
                                    (bif (!a1) then
                                      (bif (!a1) then
                                        (bif ((k39 ((IntKind.wrap .u64 (ishr .i64 (IntKind.wrap .i64 (IntKind.wrap .i32 (v39 (a3, ())))) (iand .u64 (v39 (a4, ())) 63))), ())) && ((decide (0 ≤ (iand .u64 (v39 (a4, ())) 63))) && ((decide (0 ≤ (iand .u64 (v39 (a4, ())) 63))) && ((k39 (a4, ())) && (tt 1 (k39 (a3, ()))))))) then some ((v39 ((IntKind.wrap .u64 (ishr .i64 (IntKind.wrap .i64 (IntKind.wrap .i32 (v39 (a3, ())))) (iand .u64 (v39 (a4, ())) 63))), ())), 0, ()) else none)
                                      else
                                        (bif ((decide (0 ≤ (iand .u64 (v39 (a4, ())) 63))) && ((decide (0 ≤ (iand .u64 (v39 (a4, ())) 63))) && ((k39 (a4, ())) && (tt 1 (k39 (a3, ())))))) then some ((IntKind.wrap .u64 (ishr .i64 (IntKind.wrap .i64 (IntKind.wrap .i32 (v39 (a3, ())))) (iand .u64 (v39 (a4, ())) 63))), 0, ()) else none))
                                    else
                                      (bif (!a1) then
                                        (bif ((k39 ((IntKind.wrap .u64 (ishr .i64 (IntKind.wrap .i64 (v39 (a3, ()))) (iand .u64 (v39 (a4, ())) 63))), ())) && ((decide (0 ≤ (iand .u64 (v39 (a4, ())) 63))) && ((k39 (a4, ())) && (tt 1 (k39 (a3, ())))))) then some ((v39 ((IntKind.wrap .u64 (ishr .i64 (IntKind.wrap .i64 (v39 (a3, ()))) (iand .u64 (v39 (a4, ())) 63))), ())), 0, ()) else none)
                                      else
                                        (bif ((decide (0 ≤ (iand .u64 (v39 (a4, ())) 63))) && ((k39 (a4, ())) && (tt 1 (k39 (a3, ()))))) then some ((IntKind.wrap .u64 (ishr .i64 (IntKind.wrap .i64 (v39 (a3, ()))) (iand .u64 (v39 (a4, ())) 63))), 0, ()) else none)))
                                  else
                                    (bif ((k39 (a4, ())) && (tt 1 (k39 (a3, ())))) then some (0, 1, ()) else none)))))))))))))))
      else
        (bif (!a1) then
          (bif (decide (a0 = 0)) then
            (bif (!a1) then
              (bif (tt 1 (k39 ((IntKind.wrap .u64 (a3 + a4)), ()))) then some ((v39 ((IntKind.wrap .u64 (a3 + a4)), ())), 0, ()) else none)
            else
              some ((IntKind.wrap .u64 (a3 + a4)), 0, ()))
          else
            (bif (decide (a0 = 16)) then
              (bif (!a1) then
                (bif (tt 1 (k39 ((IntKind.wrap .u64 (a3 - a4)), ()))) then some ((v39 ((IntKind.wrap .u64 (a3 - a4)), ())), 0, ()) else none)
              else
                some ((IntKind.wrap .u64 (a3 - a4)), 0, ()))
            else
              (bif (decide (a0 = 32)) then
                (bif (!a1) then
                  (bif (tt 1 (k39 ((IntKind.wrap .u64 (a3 * a4)), ()))) then some ((v39 ((IntKind.wrap .u64 (a3 * a4)), ())), 0, ()) else none)
                else
                  some ((IntKind.wrap .u64 (a3 * a4)), 0, ()))
              else
                (bif (decide (a0 = 48)) then
                  (bif (!a1) then
                    (bif ((k39 ((v40 (false, a2, a1, a3, a4, ())), ())) && (tt 1 (k40 (false, a2, a1, a3, a4, ())))) then some ((v39 ((v40 (false, a2, a1, a3, a4, ())), ())), 0, ()) else none)
                  else
                    (bif (tt 1 (k40 (false, a2, a1, a3, a4, ()))) then some ((v40 (false, a2, a1, a3, a4, ())), 0, ()) else none))
                else
                  (bif (decide (a0 = 64)) then
                    (bif (!a1) then
                      (bif (tt 1 (k39 ((ior .u64 a3 a4), ()))) then some ((v39 ((ior .u64 a3 a4), ())), 0, ()) else none)
                    else
                      some ((ior .u64 a3 a4), 0, ()))
                  else
                    (bif (decide (a0 = 80)) then
                      (bif (!a1) then
                        (bif (tt 1 (k39 ((iand .u64 a3 a4), ()))) then some ((v39 ((iand .u64 a3 a4), ())), 0, ()) else none)
                      else
                        some ((iand .u64 a3 a4), 0, ()))
                    else
                      (bif (decide (a0 = 96)) then
                        (bif (!a1) then
                          (bif ((k39 ((ishl .u64 a3 (iand .u64 a4 31)), ())) && (tt 1 (decide (0 ≤ (iand .u64 a4 31))))) then some ((v39 ((ishl .u64 a3 (iand .u64 a4 31)), ())), 0, ()) else none)
                        else
                          (bif (tt 1 (decide (0 ≤ (iand .u64 a4 31)))) then some ((ishl .u64 a3 (iand .u64 a4 31)), 0, ()) else none))
                      else
                        (bif (decide (a0 = 112)) then
                          (bif (!a1) then
                            (bif ((k39 ((ishr .u64 a3 (iand .u64 a4 31)), ())) && (tt 1 (decide (0 ≤ (iand .u64 a4 31))))) then some ((v39 ((ishr .u64 a3 (iand .u64 a4 31)), ())), 0, ()) else none)
                          else
                            (bif (tt 1 (decide (0 ≤ (iand .u64 a4 31)))) then some ((ishr .u64 a3 (iand .u64 a4 31)), 0, ()) else none))
                        else
                          (bif (decide (a0 = 128)) then
                            (bif (!a1) then
                              (bif (tt 1 (k39 ((IntKind.wrap .u64 (0 - a3)), ()))) then some ((v39 ((IntKind.wrap .u64 (0 - a3)), ())), 0, ()) else none)
                            else
                              some ((IntKind.wrap .u64 (0 - a3)), 0, ()))
                          else
                            (bif (decide (a0 = 144)) then
                              (bif (!a1) then
                                (bif ((k39 ((v40 (true, a2, a1, a3, a4, ())), ())) && (tt 1 (k40 (true, a2, a1, a3, a4, ())))) then some ((v39 ((v40 (true, a2, a1, a3, a4, ())), ())), 0, ()) else none)
                              else
                                (bif (tt 1 (k40 (true, a2, a1, a3, a4, ()))) then some ((v40 (true, a2, a1, a3, a4, ())), 0, ()) else none))
                            else
                              (bif (decide (a0 = 160)) then
                                (bif (!a1) then
                                  (bif (tt 1 (k39 ((ixor .u64 a3 a4), ()))) then some ((v39 ((ixor .u64 a3 a4), ())), 0, ()) else none)
                                else
                                  some ((ixor .u64 a3 a4), 0, ()))
                              else
                                (bif (decide (a0 = 176)) then
                                  (bif (!a1) then (bif (tt 1 (k39 (a4, ()))) then some ((v39 (a4, ())), 0, ()) else none) else some (a4, 0, ()))
                                else
                                  (bif (decide (a0 = 192)) then
                                    (bif (!a1) then
                                      (bif (!a1) then
                                        (bif ((k39 ((IntKind.wrap .u64 (ishr .i64 (IntKind.wrap .i64 (IntKind.wrap .i32 a3)) (iand .u64 a4 31))), ())) && ((decide (0 ≤ (iand .u64 a4 31))) && (tt 1 (decide (0 ≤ (iand .u64 a4 31)))))) then some ((v39 ((IntKind.wrap .u64 (ishr .i64 (IntKind.wrap .i64 (IntKind.wrap .i32 a3)) (iand .u64 a4 31))), ())), 0, ()) else none)
                                      else
                                        (bif ((decide (0 ≤ (iand .u64 a4 31))) && (tt 1 (decide (0 ≤ (iand .u64 a4 31))))) then some ((IntKind.wrap .u64 (ishr .i64 (IntKind.wrap .i64 (IntKind.wrap .i32 a3)) (iand .u64 a4 31))), 0, ()) else none))
                                    else
                                      (bif (!a1) then
                                        (bif ((k39 ((IntKind.wrap .u64 (ishr .i64 (IntKind.wrap .i64 a3) (iand .u64 a4 31))), ())) && (tt 1 (decide (0 ≤ (iand .u64 a4 31))))) then some ((v39 ((IntKind.wrap .u64 (ishr .i64 (IntKind.wrap .i64 a3) (iand .u64 a4 31))), ())), 0, ()) else none)
                                      else
                                        (bif (tt 1 (decide (0 ≤ (iand .u64 a4 31)))) then some ((IntKind.wrap .u64 (ishr .i64 (IntKind.wrap .i64 a3) (iand .u64 a4 31))), 0, ()) else none)))
                                  else
                                    some (0, 1, ()))))))))))))))
        else
          (bif (decide (a0 = 0)) then
            (bif (!a1) then
              (bif (tt 1 (k39 ((IntKind.wrap .u64 (a3 + a4)), ()))) then some ((v39 ((IntKind.wrap .u64 (a3 + a4)), ())), 0, ()) else none)
            else
              some ((IntKind.wrap .u64 (a3 + a4)), 0, ()))
          else
            (bif (decide (a0 = 16)) then
              (bif (!a1) then
                (bif (tt 1 (k39 ((IntKind.wrap .u64 (a3 - a4)), ()))) then some ((v39 ((IntKind.wrap .u64 (a3 - a4)), ())), 0, ()) else none)
              else
                some ((IntKind.wrap .u64 (a3 - a4)), 0, ()))
            else
              (bif (decide (a0 = 32)) then
                (bif (!a1) then
                  (bif (tt 1 (k39 ((IntKind.wrap .u64 (a3 * a4)), ()))) then some ((v39 ((IntKind.wrap .u64 (a3 * a4)), ())), 0, ()) else none)
                else
                  some ((IntKind.wrap .u64 (a3 * a4)), 0, ()))
              else
                (bif (decide (a0 = 48)) then
                  (bif (!a1) then
                    (bif ((k39 ((v40 (false, a2, a1, a3, a4, ())), ())) && (tt 1 (k40 (false, a2, a1, a3, a4, ())))) then some ((v39 ((v40 (false, a2, a1, a3, a4, ())), ())), 0, ()) else none)
                  else
                    (bif (tt 1 (k40 (false, a2, a1, a3, a4, ()))) then some ((v40 (false, a2, a1, a3, a4, ())), 0, ()) else none))
                else
                  (bif (decide (a0 = 64)) then
                    (bif (!a1) then
                      (bif (tt 1 (k39 ((ior .u64 a3 a4), ()))) then some ((v39 ((ior .u64 a3 a4), ())), 0, ()) else none)
                    else
                      some ((ior .u64 a3 a4), 0, ()))
                  else
                    (bif (decide (a0 = 80)) then
                      (bif (!a1) then
                        (bif (tt 1 (k39 ((iand .u64 a3 a4), ()))) then some ((v39 ((iand .u64 a3 a4), ())), 0, ()) else none)
                      else
                        some ((iand .u64 a3 a4), 0, ()))
                    else
                      (bif (decide (a0 = 96)) then
                        (bif (!a1) then
                          (bif ((k39 ((ishl .u64 a3 (iand .u64 a4 63)), ())) && (tt 1 (decide (0 ≤ (iand .u64 a4 63))))) then some ((v39 ((ishl .u64 a3 (iand .u64 a4 63)), ())), 0, ()) else none)
                        else
                          (bif (tt 1 (decide (0 ≤ (iand .u64 a4 63)))) then some ((ishl .u64 a3 (iand .u64 a4 63)), 0, ()) else none))
                      else
                        (bif (decide (a0 = 112)) then
                          (bif (!a1) then
                            (bif ((k39 ((ishr .u64 a3 (iand .u64 a4 63)), ())) && (tt 1 (decide (0 ≤ (iand .u64 a4 63))))) then some ((v39 ((ishr .u64 a3 (iand .u64 a4 63)), ())), 0, ()) else none)
                          else
                            (bif (tt 1 (decide (0 ≤ (iand .u64 a4 63)))) then some ((ishr .u64 a3 (iand .u64 a4 63)), 0, ()) else none))
                        else
                          (bif (decide (a0 = 128)) then
                            (bif (!a1) then
                              (bif (tt 1 (k39 ((IntKind.wrap .u64 (0 - a3)), ()))) then some ((v39 ((IntKind.wrap .u64 (0 - a3)), ())), 0, ()) else none)
                            else
                              some ((IntKind.wrap .u64 (0 - a3)), 0, ()))
                          else
                            (bif (decide (a0 = 144)) then
                              (bif (!a1) then
                                (bif ((k39 ((v40 (true, a2, a1, a3, a4, ())), ())) && (tt 1 (k40 (true, a2, a1, a3, a4, ())))) then some ((v39 ((v40 (true, a2, a1, a3, a4, ())), ())), 0, ()) else none)
                              else
                                (bif (tt 1 (k40 (true, a2, a1, a3, a4, ()))) then some ((v40 (true, a2, a1, a3, a4, ())), 0, ()) else none))
                            else
                              (bif (decide (a0 = 160)) then
                                (bif (!a1) then
                                  (bif (tt 1 (k39 ((ixor .u64 a3 a4), ()))) then some ((v39 ((ixor .u64 a3 a4), ())), 0, ()) else none)
                                else
                                  some ((ixor .u64 a3 a4), 0, ()))
                              else
                                (bif (decide (a0 = 176)) then
                                  (bif (!a1) then (bif (tt 1 (k39 (a4, ()))) then some ((v39 (a4, ())), 0, ()) else none) else some (a4, 0, ()))
                                else
                                  (bif (decide (a0 = 192)) then
                                    (bif (!a1) then
                                      (bif (!a1) then
                                        (bif ((k39 ((IntKind.wrap .u64 (ishr .i64 (IntKind.wrap .i64 (IntKind.wrap .i32 a3)) (iand .u64 a4 63))), ())) && ((decide (0 ≤ (iand .u64 a4 63))) && (tt 1 (decide (0 ≤ (iand .u64 a4 63)))))) then some ((v39 ((IntKind.wrap .u64 (ishr .i64 (IntKind.wrap .i64 (IntKind.wrap .i32 a3)) (iand .u64 a4 63))), ())), 0, ()) else none)
                                      else
                                        (bif ((decide (0 ≤ (iand .u64 a4 63))) && (tt 1 (decide (0 ≤ (iand .u64 a4 63))))) then some ((IntKind.wrap .u64 (ishr .i64 (IntKind.wrap .i64 (IntKind.wrap .i32 a3)) (iand .u64 a4 63))), 0, ()) else none))
                                    else
                                      (bif (!a1) then
                                        (bif ((k39 ((IntKind.wrap .u64 (ishr .i64 (IntKind.wrap .i64 a3) (iand .u64 a4 63))), ())) && (tt 1 (decide (0 ≤ (iand .u64 a4 63))))) then some ((v39 ((IntKind.wrap .u64 (ishr .i64 (IntKind.wrap .i64 a3) (iand .u64 a4 63))), ())), 0, ()) else none)
                                      else
                                        (bif (tt 1 (decide (0 ≤ (iand .u64 a4 63)))) then some ((IntKind.wrap .u64 (ishr .i64 (IntKind.wrap .i64 a3) (iand .u64 a4 63))), 0, ()) else none)))
                                  else
                                    some (0, 1, ())))))))))))))))))
  else
    (bif (!a1) then
      (bif (!a1) then
        (bif (decide (a0 = 0)) then
          (bif (!a1) then
            (bif ((k39 ((IntKind.wrap .u64 ((v39 (a3, ())) + (v39 (a4, ())))), ())) && ((k39 (a4, ())) && (tt 1 (k39 (a3, ()))))) then some ((v39 ((IntKind.wrap .u64 ((v39 (a3, ())) + (v39 (a4, ())))), ())), 0, ()) else none)
          else
            (bif ((k39 (a4, ())) && (tt 1 (k39 (a3, ())))) then some ((IntKind.wrap .u64 ((v39 (a3, ())) + (v39 (a4, ())))), 0, ()) else none))
        else
          (bif (decide (a0 = 16)) then
            (bif (!a1) then
              (bif ((k39 ((IntKind.wrap .u64 ((v39 (a3, ())) - (v39 (a4, ())))), ())) && ((k39 (a4, ())) && (tt 1 (k39 (a3, ()))))) then some ((v39 ((IntKind.wrap .u64 ((v39 (a3, ())) - (v39 (a4, ())))), ())), 0, ()) else none)
            else
              (bif ((k39 (a4, ())) && (tt 1 (k39 (a3, ())))) then some ((IntKind.wrap .u64 ((v39 (a3, ())) - (v39 (a4, ())))), 0, ()) else none))
          else
            (bif (decide (a0 = 32)) then
              (bif (!a1) then
                (bif ((k39 ((IntKind.wrap .u64 ((v39 (a3, ())) * (v39 (a4, ())))), ())) && ((k39 (a4, ())) && (tt 1 (k39 (a3, ()))))) then some ((v39 ((IntKind.wrap .u64 ((v39 (a3, ())) * (v39 (a4, ())))), ())), 0, ()) else none)
              else
                (bif ((k39 (a4, ())) && (tt 1 (k39 (a3, ())))) then some ((IntKind.wrap .u64 ((v39 (a3, ())) * (v39 (a4, ())))), 0, ()) else none))
            else
              (bif (decide (a0 = 48)) then
                (bif (!a1) then
                  (bif ((k39 ((v40 (false, a2, a1, (v39 (a3, ())), (v39 (a4, ())), ())), ())) && ((k40 (false, a2, a1, (v39 (a3, ())), (v39 (a4, ())), ())) && ((k39 (a4, ())) && (tt 1 (k39 (a3, ())))))) then some ((v39 ((v40 (false, a2, a1, (v39 (a3, ())), (v39 (a4, ())), ())), ())), 0, ()) else none)
                else
                  (bif ((k40 (false, a2, a1, (v39 (a3, ())), (v39 (a4, ())), ())) && ((k39 (a4, ())) && (tt 1 (k39 (a3, ()))))) then some ((v40 (false, a2, a1, (v39 (a3, ())), (v39 (a4, ())), ())), 0, ()) else none))
              else
                (bif (decide (a0 = 64)) then
                  (bif (!a1) then
                    (bif ((k39 ((ior .u64 (v39 (a3, ())) (v39 (a4, ()))), ())) && ((k39 (a4, ())) && (tt 1 (k39 (a3, ()))))) then some ((v39 ((ior .u64 (v39 (a3, ())) (v39 (a4, ()))), ())), 0, ()) else none)
                  else
                    (bif ((k39 (a4, ())) && (tt 1 (k39 (a3, ())))) then some ((ior .u64 (v39 (a3, ())) (v39 (a4, ()))), 0, ()) else none))
                else
                  (bif (decide (a0 = 80)) then
                    (bif (!a1) then
                      (bif ((k39 ((iand .u64 (v39 (a3, ())) (v39 (a4, ()))), ())) && ((k39 (a4, ())) && (tt 1 (k39 (a3, ()))))) then some ((v39 ((iand .u64 (v39 (a3, ())) (v39 (a4, ()))), ())), 0, ()) else none)
                    else
                      (bif ((k39 (a4, ())) && (tt 1 (k39 (a3, ())))) then some ((iand .u64 (v39 (a3, ())) (v39 (a4, ()))), 0, ()) else none))
                  else
                    (bif (decide (a0 = 96)) then
                      (bif (!a1) then
                        (bif ((k39 ((ishl .u64 (v39 (a3, ())) (iand .u64 (v39 (a4, ())) 31)), ())) && ((decide (0 ≤ (iand .u64 (v39 (a4, ())) 31))) && ((k39 (a4, ())) && (tt 1 (k39 (a3, ())))))) then some ((v39 ((ishl .u64 (v39 (a3, ())) (iand .u64 (v39 (a4, ())) 31)), ())), 0, ()) else none)
                      else
                        (bif ((decide (0 ≤ (iand .u64 (v39 (a4, ())) 31))) && ((k39 (a4, ())) && (tt 1 (k39 (a3, ()))))) then some ((ishl .u64 (v39 (a3, ())) (iand .u64 (v39 (a4, ())) 31)), 0, ()) else none))
                    else
                      (bif (decide (a0 = 112)) then
                        (bif (!a1) then
                          (bif ((k39 ((ishr .u64 (v39 (a3, ())) (iand .u64 (v39 (a4, ())) 31)), ())) && ((decide (0 ≤ (iand .u64 (v39 (a4, ())) 31))) && ((k39 (a4, ())) && (tt 1 (k39 (a3, ())))))) then some ((v39 ((ishr .u64 (v39 (a3, ())) (iand .u64 (v39 (a4, ())) 31)), ())), 0, ()) else none)
                        else
                          (bif ((decide (0 ≤ (iand .u64 (v39 (a4, ())) 31))) && ((k39 (a4, ())) && (tt 1 (k39 (a3, ()))))) then some ((ishr .u64 (v39 (a3, ())) (iand .u64 (v39 (a4, ())) 31)), 0, ()) else none))
                      else
                        (bif (decide (a0 = 128)) then
                          (bif (!a1) then
                            (bif ((k39 ((IntKind.wrap .u64 (0 - (v39 (a3, ())))), ())) && ((k39 (a4, ())) && (tt 1 (k39 (a3, ()))))) then some ((v39 ((IntKind.wrap .u64 (0 - (v39 (a3, ())))), ())), 0, ()) else none)
                          else
                            (bif ((k39 (a4, ())) && (tt 1 (k39 (a3, ())))) then some ((IntKind.wrap .u64 (0 - (v39 (a3, ())))), 0, ()) else none))
                        else
                          (bif (decide (a0 = 144)) then
                            (bif (!a1) then
                              (bif ((k39 ((v40 (true, a2, a1, (v39 (a3, ())), (v39 (a4, ())), ())), ())) && ((k40 (true, a2, a1, (v39 (a3, ())), (v39 (a4, ())), ())) && ((k39 (a4, ())) && (tt 1 (k39 (a3, ())))))) then some ((v39 ((v40 (true, a2, a1, (v39 (a3, ())), (v39 (a4, ())), ())), ())), 0, ()) else none)
                            else
                              (bif ((k40 (true, a2, a1, (v39 (a3, ())), (v39 (a4, ())), ())) && ((k39 (a4, ())) && (tt 1 (k39 (a3, ()))))) then some ((v40 (true, a2, a1, (v39 (a3, ())), (v39 (a4, ())), ())), 0, ()) else none))
                          else
                            (bif (decide (a0 = 160)) then
                              (bif (!a1) then
                                (bif ((k39 ((ixor .u64 (v39 (a3, ())) (v39 (a4, ()))), ())) && ((k39 (a4, ())) && (tt 1 (k39 (a3, ()))))) then some ((v39 ((ixor .u64 (v39 (a3, ())) (v39 (a4, ()))), ())), 0, ()) else none)
                              else
                                (bif ((k39 (a4, ())) && (tt 1 (k39 (a3, ())))) then some ((ixor .u64 (v39 (a3, ())) (v39 (a4, ()))), 0, ()) else none))
                            else
                              (bif (decide (a0 = 176)) then
                                (bif (!a1) then
                                  (bif ((k39 ((v39 (a4, ())), ())) && ((k39 (a4, ())) && (tt 1 (k39 (a3, ()))))) then some ((v39 ((v39 (a4, ())), ())), 0, ()) else none)
                                else
                                  (bif ((k39 (a4, ())) && (tt 1 (k39 (a3, ())))) then some ((v39 (a4, ())), 0, ()) else none))
                              else
                                (bif (decide (a0 = 192)) then
                                  (bif (!a1) then
                                    (bif (!a1) then
                                      (bif ((k39 ((IntKind.wrap .u64 (ishr .i64 (IntKind.wrap .i64 (IntKind.wrap .i32 (v39 (a3, ())))) (iand .u64 (v39 (a4, ())) 31))), ())) && ((decide (0 ≤ (iand .u64 (v39 (a4, ())) 31))) && ((decide (0 ≤ (iand .u64 (v39 (a4, ())) 31))) && ((k39 (a4, ())) && (tt 1 (k39 (a3, ()))))))) then some ((v39 ((IntKind.wrap .u64 (ishr .i64 (IntKind.wrap .i64 (IntKind.wrap .i32 (v39 (a3, ())))) (iand .u64 (v39 (a4, ())) 31))), ())), 0, ()) else none)
                                    else
                                      (bif ((decide (0 ≤ (iand .u64 (v39 (a4, ())) 31))) && ((decide (0 ≤ (iand .u64 (v39 (a4, ())) 31))) && ((k39 (a4, ())) && (tt 1 (k39 (a3, ())))))) then some ((IntKind.wrap .u64 (ishr .i64 (IntKind.wrap .i64 (IntKind.wrap .i32 (v39 (a3, ())))) (iand .u64 (v39 (a4, ())) 31))), 0, ()) else none))
                                  else
                                    (bif (!a1) then
                                      (bif ((k39 ((IntKind.wrap .u64 (ishr .i64 (IntKind.wrap .i64 (v39 (a3, ()))) (iand .u64 (v39 (a4, ())) 31))), ())) && ((decide (0 ≤ (iand .u64 (v39 (a4, ())) 31))) && ((k39 (a4, ())) && (tt 1 (k39 (a3, ())))))) then some ((v39 ((IntKind.wrap .u64 (ishr .i64 (IntKind.wrap .i64 (v39 (a3, ()))) (iand .u64 (v39 (a4, ())) 31))), ())), 0, ()) else none)
                                    else
                                      (bif ((decide (0 ≤ (iand .u64 (v39 (a4, ())) 31))) && ((k39 (a4, ())) && (tt 1 (k39 (a3, ()))))) then some ((IntKind.wrap .u64 (ishr .i64 (IntKind.wrap .i64 (v39 (a3, ()))) (iand .u64 (v39 (a4, ())) 31))), 0, ()) else none)))
                                else
                                  (bif ((k39 (a4, ())) && (tt 1 (k39 (a3, ())))) then some (0, 1, ()) else none))))))))))))))
      else
        (bif (decide (a0 = 0)) then
          (bif (!a1) then
            (bif ((k39 ((IntKind.wrap .u64 ((v39 (a3, ())) + (v39 (a4, ())))), ())) && ((k39 (a4, ())) && (tt 1 (k39 (a3, ()))))) then some ((v39 ((IntKind.wrap .u64 ((v39 (a3, ())) + (v39 (a4, ())))), ())), 0, ()) else none)
          else
            (bif ((k39 (a4, ())) && (tt 1 (k39 (a3, ())))) then some ((IntKind.wrap .u64 ((v39 (a3, ())) + (v39 (a4, ())))), 0, ()) else none))
        else
          (bif (decide (a0 = 16)) then
            (bif (!a1) then
              (bif ((k39 ((IntKind.wrap .u64 ((v39 (a3, ())) - (v39 (a4, ())))), ())) && ((k39 (a4, ())) && (tt 1 (k39 (a3, ()))))) then some ((v39 ((IntKind.wrap .u64 ((v39 (a3, ())) - (v39 (a4, ())))), ())), 0, ()) else none)
            else
              (bif ((k39 (a4, ())) && (tt 1 (k39 (a3, ())))) then some ((IntKind.wrap .u64 ((v39 (a3, ())) - (v39 (a4, ())))), 0, ()) else none))
          else
            (bif (decide (a0 = 32)) then
              (bif (!a1) then
                (bif ((k39 ((IntKind.wrap .u64 ((v39 (a3, ())) * (v39 (a4, ())))), ())) && ((k39 (a4, ())) && (tt 1 (k39 (a3, ()))))) then some ((v39 ((IntKind.wrap .u64 ((v39 (a3, ())) * (v39 (a4, ())))), ())), 0, ()) else none)
              else
                (bif ((k39 (a4, ())) && (tt 1 (k39 (a3, ())))) then some ((IntKind.wrap .u64 ((v39 (a3, ())) * (v39 (a4, ())))), 0, ()) else none))
            else
              (bif (decide (a0 = 48)) then
                (bif (!a1) then
                  (bif ((k39 ((v40 (false, a2, a1, (v39 (a3, ())), (v39 (a4, ())), ())), ())) && ((k40 (false, a2, a1, (v39 (a3, ())), (v39 (a4, ())), ())) && ((k39 (a4, ())) && (tt 1 (k39 (a3, ())))))) then some ((v39 ((v40 (false, a2, a1, (v39 (a3, ())), (v39 (a4, ())), ())), ())), 0, ()) else none)
                else
                  (bif ((k40 (false, a2, a1, (v39 (a3, ())), (v39 (a4, ())), ())) && ((k39 (a4, ())) && (tt 1 (k39 (a3, ()))))) then some ((v40 (false, a2, a1, (v39 (a3, ())), (v39 (a4, ())), ())), 0, ()) else none))
              else
                (bif (decide (a0 = 64)) then
                  (bif (!a1) then
                    (bif ((k39 ((ior .u64 (v39 (a3, ())) (v39 (a4, ()))), ())) && ((k39 (a4, ())) && (tt 1 (k39 (a3, ()))))) then some ((v39 ((ior .u64 (v39 (a3, ())) (v39 (a4, ()))), ())), 0, ()) else none)
                  else
                    (bif ((k39 (a4, ())) && (tt 1 (k39 (a3, ())))) then some ((ior .u64 (v39 (a3, ())) (v39 (a4, ()))), 0, ()) else none))
                else
                  (bif (decide (a0 = 80)) then
                    (bif (!a1) then
                      (bif ((k39 ((iand .u64 (v39 (a3, ())) (v39 (a4, ()))), ())) && ((k39 (a4, ())) && (tt 1 (k39 (a3, ()))))) then some ((v39 ((iand .u64 (v39 (a3, ())) (v39 (a4, ()))), ())), 0, ()) else none)
                    else
                      (bif ((k39 (a4, ())) && (tt 1 (k39 (a3, ())))) then some ((iand .u64 (v39 (a3, ())) (v39 (a4, ()))), 0, ()) else none))
                  else
                    (bif (decide (a0 = 96)) then
                      (bif (!a1) then
                        (bif ((k39 ((ishl .u64 (v39 (a3, ())) (iand .u64 (v39 (a4, ())) 63)), ())) && ((decide (0 ≤ (iand .u64 (v39 (a4, ())) 63))) && ((k39 (a4, ())) && (tt 1 (k39 (a3, ())))))) then some ((v39 ((ishl .u64 (v39 (a3, ())) (iand .u64 (v39 (a4, ())) 63)), ())), 0, ()) else none)
                      else
                        (bif ((decide (0 ≤ (iand .u64 (v39 (a4, ())) 63))) && ((k39 (a4, ())) && (tt 1 (k39 (a3, ()))))) then some ((ishl .u64 (v39 (a3, ())) (iand .u64 (v39 (a4, ())) 63)), 0, ()) else none))
                    else
                      (bif (decide (a0 = 112)) then
                        (bif (!a1) then
                          (bif ((k39 ((ishr .u64 (v39 (a3, ())) (iand .u64 (v39 (a4, ())) 63)), ())) && ((decide (0 ≤ (iand .u64 (v39 (a4, ())) 63))) && ((k39 (a4, ())) && (tt 1 (k39 (a3, ())))))) then some ((v39 ((ishr .u64 (v39 (a3, ())) (iand .u64 (v39 (a4, ())) 63)), ())), 0, ()) else none)
                        else
                          (bif ((decide (0 ≤ (iand .u64 (v39 (a4, ())) 63))) && ((k39 (a4, ())) && (tt 1 (k39 (a3, ()))))) then some ((ishr .u64 (v39 (a3, ())) (iand .u64 (v39 (a4, ())) 63)), 0, ()) else none))
                      else
                        (bif (decide (a0 = 128)) then
                          (bif (!a1) then
                            (bif ((k39 ((IntKind.wrap .u64 (0 - (v39 (a3, ())))), ())) && ((k39 (a4, ())) && (tt 1 (k39 (a3, ()))))) then some ((v39 ((IntKind.wrap .u64 (0 - (v39 (a3, ())))), ())), 0, ()) else none)
                          else
                            (bif ((k39 (a4, ())) && (tt 1 (k39 (a3, ())))) then some ((IntKind.wrap .u64 (0 - (v39 (a3, ())))), 0, ()) else none))
                        else
                          (bif (decide (a0 = 144)) then
                            (bif (!a1) then
                              (bif ((k39 ((v40 (true, a2, a1, (v39 (a3, ())), (v39 (a4, ())), ())), ())) && ((k40 (true, a2, a1, (v39 (a3, ())), (v39 (a4, ())), ())) && ((k39 (a4, ())) && (tt 1 (k39 (a3, ())))))) then some ((v39 ((v40 (true, a2, a1, (v39 (a3, ())), (v39 (a4, ())), ())), ())), 0, ()) else none)
                            else
                              (bif ((k40 (true, a2, a1, (v39 (a3, ())), (v39 (a4, ())), ())) && ((k39 (a4, ())) && (tt 1 (k39 (a3, ()))))) then some ((v40 (true, a2, a1, (v39 (a3, ())), (v39 (a4, ())), ())), 0, ()) else none))
                          else
                            (bif (decide (a0 = 160)) then
                              (bif (!a1) then
                                (bif ((k39 ((ixor .u64 (v39 (a3, ())) (v39 (a4, ()))), ())) && ((k39 (a4, ())) && (tt 1 (k39 (a3, ()))))) then some ((v39 ((ixor .u64 (v39 (a3, ())) (v39 (a4, ()))), ())), 0, ()) else none)
                              else
                                (bif ((k39 (a4, ())) && (tt 1 (k39 (a3, ())))) then some ((ixor .u64 (v39 (a3, ())) (v39 (a4, ()))), 0, ()) else none))
                            else
                              (bif (decide (a0 = 176)) then
                                (bif (!a1) then
                                  (bif ((k39 ((v39 (a4, ())), ())) && ((k39 (a4, ())) && (tt 1 (k39 (a3, ()))))) then some ((v39 ((v39 (a4, ())), ())), 0, ()) else none)
                                else
                                  (bif ((k39 (a4, ())) && (tt 1 (k39 (a3, ())))) then some ((v39 (a4, ())), 0, ()) else none))
                              else
                                (bif (decide (a0 = 192)) then
                                  (bif (!a1) then
                                    (bif (!a1) then
                                      (bif ((k39 ((IntKind.wrap .u64 (ishr .i64 (IntKind.wrap .i64 (IntKind.wrap .i32 (v39 (a3, ())))) (iand .u64 (v39 (a4, ())) 63))), ())) && ((decide (0 ≤ (iand .u64 (v39 (a4, ())) 63))) && ((decide (0 ≤ (iand .u64 (v39 (a4, ())) 63))) && ((k39 (a4, ())) && (tt 1 (k39 (a3, ()))))))) then some ((v39 ((IntKind.wrap .u64 (ishr .i64 (IntKind.wrap .i64 (IntKind.wrap .i32 (v39 (a3, ())))) (iand .u64 (v39 (a4, ())) 63))), ())), 0, ()) else none)
                                    else
                                      (bif ((decide (0 ≤ (iand .u64 (v39 (a4, ())) 63))) && ((decide (0 ≤ (iand .u64 (v39 (a4, ())) 63))) && ((k39 (a4, ())) && (tt 1 (k39 (a3, ())))))) then some ((IntKind.wrap .u64 (ishr .i64 (IntKind.wrap .i64 (IntKind.wrap .i32 (v39 (a3, ())))) (iand .u64 (v39 (a4, ())) 63))), 0, ()) else none))
                                  else
                                    (bif (!a1) then
                                      (bif ((k39 ((IntKind.wrap .u64 (ishr .i64 (IntKind.wrap .i64 (v39 (a3, ()))) (iand .u64 (v39 (a4, ())) 63))), ())) && ((decide (0 ≤ (iand .u64 (v39 (a4, ())) 63))) && ((k39 (a4, ())) && (tt 1 (k39 (a3, ())))))) then some ((v39 ((IntKind.wrap .u64 (ishr .i64 (IntKind.wrap .i64 (v39 (a3, ()))) (iand .u64 (v39 (a4, ())) 63))), ())), 0, ()) else none)
                                    else
                                      (bif ((decide (0 ≤ (iand .u64 (v39 (a4, ())) 63))) && ((k39 (a4, ())) && (tt 1 (k39 (a3, ()))))) then some ((IntKind.wrap .u64 (ishr .i64 (IntKind.wrap .i64 (v39 (a3, ()))) (iand .u64 (v39 (a4, ())) 63))), 0, ()) else none)))
                                else
                                  (bif ((k39 (a4, ())) && (tt 1 (k39 (a3, ())))) then some (0, 1, ()) else none)))))))))))))))
    else
      (bif (!a1) then
        (bif (decide (a0 = 0)) then
          (bif (!a1) then
            (bif (tt 1 (k39 ((IntKind.wrap .u64 (a3 + a4)), ()))) then some ((v39 ((IntKind.wrap .u64 (a3 + a4)), ())), 0, ()) else none)
          else
            some ((IntKind.wrap .u64 (a3 + a4)), 0, ()))
        else
          (bif (decide (a0 = 16)) then
            (bif (!a1) then
              (bif (tt 1 (k39 ((IntKind.wrap .u64 (a3 - a4)), ()))) then some ((v39 ((IntKind.wrap .u64 (a3 - a4)), ())), 0, ()) else none)
            else
              some ((IntKind.wrap .u64 (a3 - a4)), 0, ()))
          else
            (bif (decide (a0 = 32)) then
              (bif (!a1) then
                (bif (tt 1 (k39 ((IntKind.wrap .u64 (a3 * a4)), ()))) then some ((v39 ((IntKind.wrap .u64 (a3 * a4)), ())), 0, ()) else none)
              else
                some ((IntKind.wrap .u64 (a3 * a4)), 0, ()))
            else
              (bif (decide (a0 = 48)) then
                (bif (!a1) then
                  (bif ((k39 ((v40 (false, a2, a1, a3, a4, ())), ())) && (tt 1 (k40 (false, a2, a1, a3, a4, ())))) then some ((v39 ((v40 (false, a2, a1, a3, a4, ())), ())), 0, ()) else none)
                else
                  (bif (tt 1 (k40 (false, a2, a1, a3, a4, ()))) then some ((v40 (false, a2, a1, a3, a4, ())), 0, ()) else none))
              else
                (bif (decide (a0 = 64)) then
                  (bif (!a1) then
                    (bif (tt 1 (k39 ((ior .u64 a3 a4), ()))) then some ((v39 ((ior .u64 a3 a4), ())), 0, ()) else none)
                  else
                    some ((ior .u64 a3 a4), 0, ()))
                else
                  (bif (decide (a0 = 80)) then
                    (bif (!a1) then
                      (bif (tt 1 (k39 ((iand .u64 a3 a4), ()))) then some ((v39 ((iand .u64 a3 a4), ())), 0, ()) else none)
                    else
                      some ((iand .u64 a3 a4), 0, ()))
                  else
                    (bif (decide (a0 = 96)) then
                      (bif (!a1) then
                        (bif ((k39 ((ishl .u64 a3 (iand .u64 a4 31)), ())) && (tt 1 (decide (0 ≤ (iand .u64 a4 31))))) then some ((v39 ((ishl .u64 a3 (iand .u64 a4 31)), ())), 0, ()) else none)
                      else
                        (bif (tt 1 (decide (0 ≤ (iand .u64 a4 31)))) then some ((ishl .u64 a3 (iand .u64 a4 31)), 0, ()) else none))
                    else
                      (bif (decide (a0 = 112)) then
                        (bif (!a1) then
                          (bif ((k39 ((ishr .u64 a3 (iand .u64 a4 31)), ())) && (tt 1 (decide (0 ≤ (iand .u64 a4 31))))) then some ((v39 ((ishr .u64 a3 (iand .u64 a4 31)), ())), 0, ()) else none)
                        else
                          (bif (tt 1 (decide (0 ≤ (iand .u64 a4 31)))) then some ((ishr .u64 a3 (iand .u64 a4 31)), 0, ()) else none))
                      else
                        (bif (decide (a0 = 128)) then
                          (bif (!a1) then
                            (bif (tt 1 (k39 ((IntKind.wrap .u64 (0 - a3)), ()))) then some ((v39 ((IntKind.wrap .u64 (0 - a3)), ())), 0, ()) else none)
                          else
                            some ((IntKind.wrap .u64 (0 - a3)), 0, ()))
                        else
                          (bif (decide (a0 = 144)) then
                            (bif (!a1) then
                              (bif ((k39 ((v40 (true, a2, a1, a3, a4, ())), ())) && (tt 1 (k40 (true, a2, a1, a3, a4, ())))) then some ((v39 ((v40 (true, a2, a1, a3, a4, ())), ())), 0, ()) else none)
                            else
                              (bif (tt 1 (k40 (true, a2, a1, a3, a4, ()))) then some ((v40 (true, a2, a1, a3, a4, ())), 0, ()) else none))
                          else
                            (bif (decide (a0 = 160)) then
                              (bif (!a1) then
                                (bif (tt 1 (k39 ((ixor .u64 a3 a4), ()))) then some ((v39 ((ixor .u64 a3 a4), ())), 0, ()) else none)
                              else
                                some ((ixor .u64 a3 a4), 0, ()))
                            else
                              (bif (decide (a0 = 176)) then
                                (bif (!a1) then (bif (tt 1 (k39 (a4, ()))) then some ((v39 (a4, ())), 0, ()) else none) else some (a4, 0, ()))
                              else
                                (bif (decide (a0 = 192)) then
                                  (bif (!a1) then
                                    (bif (!a1) then
                                      (bif ((k39 ((IntKind.wrap .u64 (ishr .i64 (IntKind.wrap .i64 (IntKind.wrap .i32 a3)) (iand .u64 a4 31))), ())) && ((decide (0 ≤ (iand .u64 a4 31))) && (tt 1 (decide (0 ≤ (iand .u64 a4 31)))))) then some ((v39 ((IntKind.wrap .u64 (ishr .i64 (IntKind.wrap .i64 (IntKind.wrap .i32 a3)) (iand .u64 a4 31))), ())), 0, ()) else none)
                                    else
                                      (bif ((decide (0 ≤ (iand .u64 a4 31))) && (tt 1 (decide (0 ≤ (iand .u64 a4 31))))) then some ((IntKind.wrap .u64 (ishr .i64 (IntKind.wrap .i64 (IntKind.wrap .i32 a3)) (iand .u64 a4 31))), 0, ()) else none))
                                  else
                                    (bif (!a1) then
                                      (bif ((k39 ((IntKind.wrap .u64 (ishr .i64 (IntKind.wrap .i64 a3) (iand .u64 a4 31))), ())) && (tt 1 (decide (0 ≤ (iand .u64 a4 31))))) then some ((v39 ((IntKind.wrap .u64 (ishr .i64 (IntKind.wrap .i64 a3) (iand .u64 a4 31))), ())), 0, ()) else none)
                                    else
                                      (bif (tt 1 (decide (0 ≤ (iand .u64 a4 31)))) then some ((IntKind.wrap .u64 (ishr .i64 (IntKind.wrap .i64 a3) (iand .u64 a4 31))), 0, ()) else none)))
                                else
                                  some (0, 1, ()))))))))))))))
      else
        (bif (decide (a0 = 0)) then
          (bif (!a1) then
            (bif (tt 1 (k39 ((IntKind.wrap .u64 (a3 + a4)), ()))) then some ((v39 ((IntKind.wrap .u64 (a3 + a4)), ())), 0, ()) else none)
          else
            some ((IntKind.wrap .u64 (a3 + a4)), 0, ()))
        else
          (bif (decide (a0 = 16)) then
            (bif (!a1) then
              (bif (tt 1 (k39 ((IntKind.wrap .u64 (a3 - a4)), ()))) then some ((v39 ((IntKind.wrap .u64 (a3 - a4)), ())), 0, ()) else none)
            else
              some ((IntKind.wrap .u64 (a3 - a4)), 0, ()))
          else
            (bif (decide (a0 = 32)) then
              (bif (!a1) then
                (bif (tt 1 (k39 ((IntKind.wrap .u64 (a3 * a4)), ()))) then some ((v39 ((IntKind.wrap .u64 (a3 * a4)), ())), 0, ()) else none)
              else
                some ((IntKind.wrap .u64 (a3 * a4)), 0, ()))
            else
              (bif (decide (a0 = 48)) then
                (bif (!a1) then
                  (bif ((k39 ((v40 (false, a2, a1, a3, a4, ())), ())) && (tt 1 (k40 (false, a2, a1, a3, a4, ())))) then some ((v39 ((v40 (false, a2, a1, a3, a4, ())), ())), 0, ()) else none)
                else
                  (bif (tt 1 (k40 (false, a2, a1, a3, a4, ()))) then some ((v40 (false, a2, a1, a3, a4, ())), 0, ()) else none))
              else
                (bif (decide (a0 = 64)) then
                  (bif (!a1) then
                    (bif (tt 1 (k39 ((ior .u64 a3 a4), ()))) then some ((v39 ((ior .u64 a3 a4), ())), 0, ()) else none)
                  else
                    some ((ior .u64 a3 a4), 0, ()))
                else
                  (bif (decide (a0 = 80)) then
                    (bif (!a1) then
                      (bif (tt 1 (k39 ((iand .u64 a3 a4), ()))) then some ((v39 ((iand .u64 a3 a4), ())), 0, ()) else none)
                    else
                      some ((iand .u64 a3 a4), 0, ()))
                  else
                    (bif (decide (a0 = 96)) then
                      (bif (!a1) then
                        (bif ((k39 ((ishl .u64 a3 (iand .u64 a4 63)), ())) && (tt 1 (decide (0 ≤ (iand .u64 a4 63))))) then some ((v39 ((ishl .u64 a3 (iand .u64 a4 63)), ())), 0, ()) else none)
                      else
                        (bif (tt 1 (decide (0 ≤ (iand .u64 a4 63)))) then some ((ishl .u64 a3 (iand .u64 a4 63)), 0, ()) else none))
                    else
                      (bif (decide (a0 = 112)) then
                        (bif (!a1) then
                          (bif ((k39 ((ishr .u64 a3 (iand .u64 a4 63)), ())) && (tt 1 (decide (0 ≤ (iand .u64 a4 63))))) then some ((v39 ((ishr .u64 a3 (iand .u64 a4 63)), ())), 0, ()) else none)
                        else
                          (bif (tt 1 (decide (0 ≤ (iand .u64 a4 63)))) then some ((ishr .u64 a3 (iand .u64 a4 63)), 0, ()) else none))
                      else
                        (bif (decide (a0 = 128)) then
                          (bif (!a1) then
                            (bif (tt 1 (k39 ((IntKind.wrap .u64 (0 - a3)), ()))) then some ((v39 ((IntKind.wrap .u64 (0 - a3)), ())), 0, ()) else none)
                          else
                            some ((IntKind.wrap .u64 (0 - a3)), 0, ()))
                        else
                          (bif (decide (a0 = 144)) then
                            (bif (!a1) then
                              (bif ((k39 ((v40 (true, a2, a1, a3, a4, ())), ())) && (tt 1 (k40 (true, a2, a1, a3, a4, ())))) then some ((v39 ((v40 (true, a2, a1, a3, a4, ())), ())), 0, ()) else none)
                            else
                              (bif (tt 1 (k40 (true, a2, a1, a3, a4, ()))) then some ((v40 (true, a2, a1, a3, a4, ())), 0, ()) else none))
                          else
                            (bif (decide (a0 = 160)) then
                              (bif (!a1) then
                                (bif (tt 1 (k39 ((ixor .u64 a3 a4), ()))) then some ((v39 ((ixor .u64 a3 a4), ())), 0, ()) else none)
                              else
                                some ((ixor .u64 a3 a4), 0, ()))
                            else
                              (bif (decide (a0 = 176)) then
                                (bif (!a1) then (bif (tt 1 (k39 (a4, ()))) then some ((v39 (a4, ())), 0, ()) else none) else some (a4, 0, ()))
                              else
                                (bif (decide (a0 = 192)) then
                                  (bif (!a1) then
                                    (bif (!a1) then
                                      (bif ((k39 ((IntKind.wrap .u64 (ishr .i64 (IntKind.wrap .i64 (IntKind.wrap .i32 a3)) (iand .u64 a4 63))), ())) && ((decide (0 ≤ (iand .u64 a4 63))) && (tt 1 (decide (0 ≤ (iand .u64 a4 63)))))) then some ((v39 ((IntKind.wrap .u64 (ishr .i64 (IntKind.wrap .i64 (IntKind.wrap .i32 a3)) (iand .u64 a4 63))), ())), 0, ()) else none)
                                    else
                                      (bif ((decide (0 ≤ (iand .u64 a4 63))) && (tt 1 (decide (0 ≤ (iand .u64 a4 63))))) then some ((IntKind.wrap .u64 (ishr .i64 (IntKind.wrap .i64 (IntKind.wrap .i32 a3)) (iand .u64 a4 63))), 0, ()) else none))
                                  else
                                    (bif (!a1) then
                                      (bif ((k39 ((IntKind.wrap .u64 (ishr .i64 (IntKind.wrap .i64 a3) (iand .u64 a4 63))), ())) && (tt 1 (decide (0 ≤ (iand .u64 a4 63))))) then some ((v39 ((IntKind.wrap .u64 (ishr .i64 (IntKind.wrap .i64 a3) (iand .u64 a4 63))), ())), 0, ()) else none)
                                    else
                                      (bif (tt 1 (decide (0 ≤ (iand .u64 a4 63)))) then some ((IntKind.wrap .u64 (ishr .i64 (IntKind.wrap .i64 a3) (iand .u64 a4 63))), 0, ()) else none)))
                                else
                                  some (0, 1, ())))))))))))))))))
theorem t14 (v39 : (Int × Unit) → Int) (k39 : (Int × Unit) → Bool) (v40 : (Bool × Bool × Bool × Int × Int × Unit) → Int) (k40 : (Bool × Bool × Bool × Int × Int × Unit) → Bool) (a0 : Int) (a1 : Bool) (a2 : Bool) (a3 : Int) (a4 : Int) : fnT (CxL Try.Θ (kOf [(39, sm [(.int .u64)] (.int .u64) v39 k39), (40, sm [.bool, .bool, .bool, (.int .u64), (.int .u64)] (.int .u64) v40 k40)]) (lOf [])) Try.f14 (.tup (.int .u64) (.tup (.int .i64) .tnil)) [⟨(.int .i64), a0⟩, ⟨.bool, a1⟩, ⟨.bool, a2⟩, ⟨(.int .u64), a3⟩, ⟨(.int .u64), a4⟩] = S14 v39 k39 v40 k40 a0 a1 a2 a3 a4 := by kernel_rfl
noncomputable def S15  (a0 : (Int × (Int × Unit))) (a1 : Int) : Option Bool :=
  some (decide ((iandn .u64 a1 a0.2.1) = (iandn .u64 a0.1 a0.2.1)))
theorem t15  (a0 : (Int × (Int × Unit))) (a1 : Int) : fnT (CxL Try.Θ (kOf []) (lOf [])) Try.f15 .bool [⟨(.pair (.int .u64) (.pair (.int .u64) .unit)), a0⟩, ⟨(.int .u64), a1⟩] = S15  a0 a1 := by kernel_rfl
noncomputable def S4 (v9 : ((Int × (Int × Unit)) × Unit) → (Int × (Int × Unit))) (k9 : ((Int × (Int × Unit)) × Unit) → Bool) (v10 : (Int × (Int × (Int × Unit)) × (Int × (Int × Unit)) × Unit) → ((Int × (Int × Unit)) × (Int × Unit))) (k10 : (Int × (Int × (Int × Unit)) × (Int × (Int × Unit)) × Unit) → Bool) (v12 : (Unit) → Bool) (k12 : (Unit) → Bool) (v13 : ((Int × (Int × Unit)) × Int × Unit) → Int) (k13 : ((Int × (Int × Unit)) × Int × Unit) → Bool) (v14 : (Int × Bool × Bool × Int × Int × Unit) → (Int × (Int × Unit))) (k14 : (Int × Bool × Bool × Int × Int × Unit) → Bool) (v15 : ((Int × (Int × Unit)) × Int × Unit) → Bool) (k15 : ((Int × (Int × Unit)) × Int × Unit) → Bool) (a0 : Int) (a1 : (List (Int × (Int × Unit)))) (a2 : (List Int)) : Option Bool :=
  (bif (!(decide ((v10 (a0, (v9 ((a1.getD 0 (0, (0, ()))), ())), (v9 ((a1.getD 1 (0, (0, ()))), ())), ())).2.1 = 0))) then
    (bif ((decide ((v10 (a0, (v9 ((a1.getD 0 (0, (0, ()))), ())), (v9 ((a1.getD 1 (0, (0, ()))), ())), ())).1.1 = 0)) && (tt 1 (decide ((v10 (a0, (v9 ((a1.getD 0 (0, (0, ()))), ())), (v9 ((a1.getD 1 (0, (0, ()))), ())), ())).1.2.1 = 0)))) then
      (bif ((k12 (())) && ((k10 (a0, (v9 ((a1.getD 0 (0, (0, ()))), ())), (v9 ((a1.getD 1 (0, (0, ()))), ())), ())) && (((k13 ((v9 ((a1.getD 1 (0, (0, ()))), ())), (a2.getD 1 0), ())) && (tt 1 (k13 ((v9 ((a1.getD 0 (0, (0, ()))), ())), (a2.getD 0 0), ())))) && (tt 1 ((k9 ((a1.getD 1 (0, (0, ()))), ())) && (tt 1 (k9 ((a1.getD 0 (0, (0, ()))), ())))))))) then some (v12 (())) else none)
    else
      (bif ((k10 (a0, (v9 ((a1.getD 0 (0, (0, ()))), ())), (v9 ((a1.getD 1 (0, (0, ()))), ())), ())) && (((k13 ((v9 ((a1.getD 1 (0, (0, ()))), ())), (a2.getD 1 0), ())) && (tt 1 (k13 ((v9 ((a1.getD 0 (0, (0, ()))), ())), (a2.getD 0 0), ())))) && (tt 1 ((k9 ((a1.getD 1 (0, (0, ()))), ())) && (tt 1 (k9 ((a1.getD 0 (0, (0, ()))), ()))))))) then some false else none))
  else
    (bif (decide ((v14 (a0, true, false, (v13 ((v9 ((a1.getD 0 (0, (0, ()))), ())), (a2.getD 0 0), ())), (v13 ((v9 ((a1.getD 1 (0, (0, ()))), ())), (a2.getD 1 0), ())), ())).2.1 = 0)) then
      (bif (v15 ((v10 (a0, (v9 ((a1.getD 0 (0, (0, ()))), ())), (v9 ((a1.getD 1 (0, (0, ()))), ())), ())).1, (v14 (a0, true, false, (v13 ((v9 ((a1.getD 0 (0, (0, ()))), ())), (a2.getD 0 0), ())), (v13 ((v9 ((a1.getD 1 (0, (0, ()))), ())), (a2.getD 1 0), ())), ())).1, ())) then
        (bif (decide ((iand .u64 (v10 (a0, (v9 ((a1.getD 0 (0, (0, ()))), ())), (v9 ((a1.getD 1 (0, (0, ()))), ())), ())).1.1 (v10 (a0, (v9 ((a1.getD 0 (0, (0, ()))), ())), (v9 ((a1.getD 1 (0, (0, ()))), ())), ())).1.2.1) = 0)) then
          (bif (v15 ((v9 ((a1.getD 0 (0, (0, ()))), ())), (v13 ((v9 ((a1.getD 0 (0, (0, ()))), ())), (a2.getD 0 0), ())), ())) then
            (bif ((k12 (())) && ((k15 ((v9 ((a1.getD 0 (0, (0, ()))), ())), (v13 ((v9 ((a1.getD 0 (0, (0, ()))), ())), (a2.getD 0 0), ())), ())) && ((k15 ((v10 (a0, (v9 ((a1.getD 0 (0, (0, ()))), ())), (v9 ((a1.getD 1 (0, (0, ()))), ())), ())).1, (v14 (a0, true, false, (v13 ((v9 ((a1.getD 0 (0, (0, ()))), ())), (a2.getD 0 0), ())), (v13 ((v9 ((a1.getD 1 (0, (0, ()))), ())), (a2.getD 1 0), ())), ())).1, ())) && ((k14 (a0, true, false, (v13 ((v9 ((a1.getD 0 (0, (0, ()))), ())), (a2.getD 0 0), ())), (v13 ((v9 ((a1.getD 1 (0, (0, ()))), ())), (a2.getD 1 0), ())), ())) && ((k10 (a0, (v9 ((a1.getD 0 (0, (0, ()))), ())), (v9 ((a1.getD 1 (0, (0, ()))), ())), ())) && (((k13 ((v9 ((a1.getD 1 (0, (0, ()))), ())), (a2.getD 1 0), ())) && (tt 1 (k13 ((v9 ((a1.getD 0 (0, (0, ()))), ())), (a2.getD 0 0), ())))) && (tt 1 ((k9 ((a1.getD 1 (0, (0, ()))), ())) && (tt 1 (k9 ((a1.getD 0 (0, (0, ()))), ()))))))))))) then some (v12 (())) else none)
          else
            (bif ((k15 ((v9 ((a1.getD 0 (0, (0, ()))), ())), (v13 ((v9 ((a1.getD 0 (0, (0, ()))), ())), (a2.getD 0 0), ())), ())) && ((k15 ((v10 (a0, (v9 ((a1.getD 0 (0, (0, ()))), ())), (v9 ((a1.getD 1 (0, (0, ()))), ())), ())).1, (v14 (a0, true, false, (v13 ((v9 ((a1.getD 0 (0, (0, ()))), ())), (a2.getD 0 0), ())), (v13 ((v9 ((a1.getD 1 (0, (0, ()))), ())), (a2.getD 1 0), ())), ())).1, ())) && ((k14 (a0, true, false, (v13 ((v9 ((a1.getD 0 (0, (0, ()))), ())), (a2.getD 0 0), ())), (v13 ((v9 ((a1.getD 1 (0, (0, ()))), ())), (a2.getD 1 0), ())), ())) && ((k10 (a0, (v9 ((a1.getD 0 (0, (0, ()))), ())), (v9 ((a1.getD 1 (0, (0, ()))), ())), ())) && (((k13 ((v9 ((a1.getD 1 (0, (0, ()))), ())), (a2.getD 1 0), ())) && (tt 1 (k13 ((v9 ((a1.getD 0 (0, (0, ()))), ())), (a2.getD 0 0), ())))) && (tt 1 ((k9 ((a1.getD 1 (0, (0, ()))), ())) && (tt 1 (k9 ((a1.getD 0 (0, (0, ()))), ())))))))))) then some false else none))
        else
          (bif ((k15 ((v10 (a0, (v9 ((a1.getD 0 (0, (0, ()))), ())), (v9 ((a1.getD 1 (0, (0, ()))), ())), ())).1, (v14 (a0, true, false, (v13 ((v9 ((a1.getD 0 (0, (0, ()))), ())), (a2.getD 0 0), ())), (v13 ((v9 ((a1.getD 1 (0, (0, ()))), ())), (a2.getD 1 0), ())), ())).1, ())) && ((k14 (a0, true, false, (v13 ((v9 ((a1.getD 0 (0, (0, ()))), ())), (a2.getD 0 0), ())), (v13 ((v9 ((a1.getD 1 (0, (0, ()))), ())), (a2.getD 1 0), ())), ())) && ((k10 (a0, (v9 ((a1.getD 0 (0, (0, ()))), ())), (v9 ((a1.getD 1 (0, (0, ()))), ())), ())) && (((k13 ((v9 ((a1.getD 1 (0, (0, ()))), ())), (a2.getD 1 0), ())) && (tt 1 (k13 ((v9 ((a1.getD 0 (0, (0, ()))), ())), (a2.getD 0 0), ())))) && (tt 1 ((k9 ((a1.getD 1 (0, (0, ()))), ())) && (tt 1 (k9 ((a1.getD 0 (0, (0, ()))), ()))))))))) then some false else none))
      else
        (bif ((k15 ((v10 (a0, (v9 ((a1.getD 0 (0, (0, ()))), ())), (v9 ((a1.getD 1 (0, (0, ()))), ())), ())).1, (v14 (a0, true, false, (v13 ((v9 ((a1.getD 0 (0, (0, ()))), ())), (a2.getD 0 0), ())), (v13 ((v9 ((a1.getD 1 (0, (0, ()))), ())), (a2.getD 1 0), ())), ())).1, ())) && ((k14 (a0, true, false, (v13 ((v9 ((a1.getD 0 (0, (0, ()))), ())), (a2.getD 0 0), ())), (v13 ((v9 ((a1.getD 1 (0, (0, ()))), ())), (a2.getD 1 0), ())), ())) && ((k10 (a0, (v9 ((a1.getD 0 (0, (0, ()))), ())), (v9 ((a1.getD 1 (0, (0, ()))), ())), ())) && (((k13 ((v9 ((a1.getD 1 (0, (0, ()))), ())), (a2.getD 1 0), ())) && (tt 1 (k13 ((v9 ((a1.getD 0 (0, (0, ()))), ())), (a2.getD 0 0), ())))) && (tt 1 ((k9 ((a1.getD 1 (0, (0, ()))), ())) && (tt 1 (k9 ((a1.getD 0 (0, (0, ()))), ()))))))))) then some false else none))
    else
      (bif ((k14 (a0, true, false, (v13 ((v9 ((a1.getD 0 (0, (0, ()))), ())), (a2.getD 0 0), ())), (v13 ((v9 ((a1.getD 1 (0, (0, ()))), ())), (a2.getD 1 0), ())), ())) && ((k10 (a0, (v9 ((a1.getD 0 (0, (0, ()))), ())), (v9 ((a1.getD 1 (0, (0, ()))), ())), ())) && (((k13 ((v9 ((a1.getD 1 (0, (0, ()))), ())), (a2.getD 1 0), ())) && (tt 1 (k13 ((v9 ((a1.getD 0 (0, (0, ()))), ())), (a2.getD 0 0), ())))) && (tt 1 ((k9 ((a1.getD 1 (0, (0, ()))), ())) && (tt 1 (k9 ((a1.getD 0 (0, (0, ()))), ())))))))) then some false else none)))
theorem t4 (v9 : ((Int × (Int × Unit)) × Unit) → (Int × (Int × Unit))) (k9 : ((Int × (Int × Unit)) × Unit) → Bool) (v10 : (Int × (Int × (Int × Unit)) × (Int × (Int × Unit)) × Unit) → ((Int × (Int × Unit)) × (Int × Unit))) (k10 : (Int × (Int × (Int × Unit)) × (Int × (Int × Unit)) × Unit) → Bool) (v12 : (Unit) → Bool) (k12 : (Unit) → Bool) (v13 : ((Int × (Int × Unit)) × Int × Unit) → Int) (k13 : ((Int × (Int × Unit)) × Int × Unit) → Bool) (v14 : (Int × Bool × Bool × Int × Int × Unit) → (Int × (Int × Unit))) (k14 : (Int × Bool × Bool × Int × Int × Unit) → Bool) (v15 : ((Int × (Int × Unit)) × Int × Unit) → Bool) (k15 : ((Int × (Int × Unit)) × Int × Unit) → Bool) (a0 : Int) (a1 : (List (Int × (Int × Unit)))) (a2 : (List Int)) : fnT (CxL Try.Θ (kOf [(9, sm [(.pair (.int .u64) (.pair (.int .u64) .unit))] (.pair (.int .u64) (.pair (.int .u64) .unit)) v9 k9), (10, sm [(.int .i64), (.pair (.int .u64) (.pair (.int .u64) .unit)), (.pair (.int .u64) (.pair (.int .u64) .unit))] (.tup (.pair (.int .u64) (.pair (.int .u64) .unit)) (.tup (.int .i64) .tnil)) v10 k10), (12, sm [] .bool v12 k12), (13, sm [(.pair (.int .u64) (.pair (.int .u64) .unit)), (.int .u64)] (.int .u64) v13 k13), (14, sm [(.int .i64), .bool, .bool, (.int .u64), (.int .u64)] (.tup (.int .u64) (.tup (.int .i64) .tnil)) v14 k14), (15, sm [(.pair (.int .u64) (.pair (.int .u64) .unit)), (.int .u64)] .bool v15 k15)]) (lOf [])) Try.f4 .bool [⟨(.int .i64), a0⟩, ⟨(.arr 2 (.pair (.int .u64) (.pair (.int .u64) .unit))), a1⟩, ⟨(.arr 2 (.int .u64)), a2⟩] = S4 v9 k9 v10 k10 v12 k12 v13 k13 v14 k14 v15 k15 a0 a1 a2 := by kernel_rfl
end Go.Proofs
