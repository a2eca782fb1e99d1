import Derived.Test.YtjnbpklllapjiaaI
import Derived.Test.YtjnbpklllapjiaaAG
import Derived.Test.YtjnbpklllapjiaaGe
namespace Go.Proofs
open Go.GX
set_option linter.unusedVariables false
set_option maxRecDepth 100000
@[reducible] def KTb0 : Ty := (.pair (.int .u64) .unit)
@[reducible] def KTb1 : Ty := (.pair (.int .u64) KTb0)
@[reducible] def KTb2 : Ty := (.pair (.int .i64) .unit)
@[reducible] def KTb3 : Ty := (.pair (.int .i64) KTb2)
@[reducible] def KTb4 : Ty := (.pair (.int .i64) KTb3)
@[reducible] def KTb5 : Ty := (.pair (.pair KTb1 KTb1) KTb4)
@[reducible] def KTb6 : Ty := (.pair (.int .i64) KTb5)
@[reducible] def KTb7 : Ty := (.pair (.int .i64) (.pair KTb6 .unit))
@[reducible] def KTb8 : Ty := (.pair (.int .i64) KTb7)
@[reducible] def ODb0 : Dk := (.pr (.v (.arr 11 KTb6)) (.pr (.v (.arr 64 KTb8)) (.pr (.v (.int .i64)) (.pr (.own 0 (.int .i64)) (.pr (.v (.int .i64)) (.v .unit))))))
@[reducible] def ODb3 : Dk := (.own 0 (.int .i64))
@[reducible] def KDb9 : Type := ((Int × (Int × Unit)) × (Int × (Int × Unit)))
@[reducible] def KDb10 : Type := (Int × (Int × (Int × Unit)))
@[reducible] def KDb11 : Type := (List (Int × (KDb9 × KDb10)))
@[reducible] def KDb12 : Type := ((Int × (KDb9 × KDb10)) × Unit)
@[reducible] def KDb13 : Type := (List (Int × (Int × KDb12)))
@[reducible] def KDb14 : Type := (KDb11 × (KDb13 × (Int × ((List Int) × (Int × Unit)))))
noncomputable def S15g (v36 : ((List Int) × Unit) → (List Int)) (k36 : ((List Int) × Unit) → Bool) (a0 : KDb14) : Option KDb14 :=
  (bif (tt 1 ((k36 ((seI 0 a0.2.2.2.1), ())) && (tt 1 (flI a0.2.2.2.1)))) then (bif (tt 2 (fl0 (v36 ((seI 0 a0.2.2.2.1), ())))) then some (a0.1, (a0.2.1, (a0.2.2.1, ((seO 0 (v36 ((seI 0 a0.2.2.2.1), ()))), (a0.2.2.2.2.1, a0.2.2.2.2.2))))) else none) else none)
theorem t15g (v36 : ((List Int) × Unit) → (List Int)) (k36 : ((List Int) × Unit) → Bool) (a0 : KDb14) : fnV (CxL Try.Θ (kOf [(36, smG [.p ODb3] ODb3 1 v36 k36)]) (lOf [])) Try.f15 [.im ODb0] 1 ODb0 (a0, ()) = S15g v36 k36 a0 := by kernel_rfl
end Go.Proofs
