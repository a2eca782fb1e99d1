import Derived.Test.YtfhpihomdnbgpaaIO
import Derived.Test.YtfhpihomdnbgpaaGd
namespace Go.Proofs.Po
open Go.GX
set_option linter.unusedVariables false
set_option maxRecDepth 100000
@[reducible] def ODc0 : Dk := (.pr (.own 0 (.int .i64)) (.pr (.own 1 (.int .i64)) (.v .unit)))
@[reducible] def KTc0 : Ty := (.pair (.int .u64) .unit)
@[reducible] def KTc1 : Ty := (.pair (.int .u64) KTc0)
@[reducible] def KTc2 : Ty := (.pair (.int .i64) .unit)
@[reducible] def KTc3 : Ty := (.pair (.int .i64) KTc2)
@[reducible] def KTc4 : Ty := (.pair (.int .i64) KTc3)
@[reducible] def KTc5 : Ty := (.pair (.pair KTc1 KTc1) KTc4)
@[reducible] def KTc6 : Ty := (.pair (.int .i64) KTc5)
@[reducible] def KTc7 : Ty := (.pair (.int .i64) (.pair KTc6 .unit))
@[reducible] def KTc8 : Ty := (.pair (.int .i64) KTc7)
@[reducible] def ODc1 : Dk := (.pr (.v (.arr 11 KTc6)) (.pr (.v (.arr 64 KTc8)) (.pr (.v (.int .i64)) (.pr (.own 0 (.int .i64)) (.pr (.v (.int .i64)) (.v .unit))))))
@[reducible] def ODc2 : Dk := (.pr (.own 1 (.int .i64)) (.pr (.own 2 (.int .i64)) (.v .unit)))
@[reducible] def ODc3 : Dk := (.pr (.v (.arr 64 KTc8)) (.pr (.v (.int .i64)) (.pr (.own 0 (.int .i64)) (.pr (.v (.int .i64)) (.v .unit)))))
@[reducible] def KDc12 : Type := ((List Int) × ((List Int) × Unit))
@[reducible] def ODc4 : Dk := (.own 0 (.int .i64))
@[reducible] def ODc5 : Dk := (.own 1 (.int .i64))
@[reducible] def KTc13 : Ty := (.pair (.int .i64) KTc4)
@[reducible] def ODc6 : Dk := (.pr (.pr (.v (.arr 11 KTc6)) (.pr (.v (.arr 64 KTc8)) (.pr (.v (.int .i64)) (.pr (.own 0 (.int .i64)) (.pr (.v (.int .i64)) (.v .unit)))))) (.pr (.v (.vsl KTc13)) (.pr (.pr (.own 1 (.int .i64)) (.pr (.own 2 (.int .i64)) (.v .unit))) (.v .unit))))
@[reducible] def KTc14 : Ty := (.tup (.int .u64) (.tup .bool .tnil))
@[reducible] def KDc15 : Type := ((Int × (Int × Unit)) × (Int × (Int × Unit)))
@[reducible] def KDc16 : Type := (Int × (Int × (Int × Unit)))
@[reducible] def KDc17 : Type := (List (Int × (KDc15 × KDc16)))
@[reducible] def KDc18 : Type := ((Int × (KDc15 × KDc16)) × Unit)
@[reducible] def KDc19 : Type := (List (Int × (Int × KDc18)))
@[reducible] def KDc20 : Type := ((KDc17 × (KDc19 × (Int × ((List Int) × (Int × Unit))))) × ((List (Int × KDc16)) × (((List Int) × ((List Int) × Unit)) × Unit)))
@[reducible] def KDc21 : Type := (KDc17 × (KDc19 × (Int × ((List Int) × (Int × Unit)))))
@[reducible] def Yc0 : Type := ((List Int) × (List Int) × Unit)
noncomputable def S36g  (a0 : (List Int)) (a1 : (List Int)) : Option (KDc12 × Bool) :=
 (bif ((tt 1 (fl0 a1)) && (tt 2 (fl0 a0))) then some (((seO 0 a1), ((seO 0 a0), ())), true) else none)
theorem t36g  (a0 : (List Int)) (a1 : (List Int)) : fnV2 (CxL Tryo.Θ (kOf []) (lOf [])) Tryo.f36 [.mv ODc4, .mv ODc5] 2 ODc0 .bool (a0, a1, ()) = S36g  a0 a1 := by kernel_rfl
noncomputable def S16g (v36 : Yc0 → (KDc12 × Bool)) (k36 : Yc0 → Bool) (a0 : Int) : Option (KDc12 × Bool) :=
 (bif (decide (a0 = 1)) then
 (bif (tt 2 (k36 ([1, 2, 6, 9, 11], [0, 1], ()))) then (bif ((tt 1 (fl0 (v36 ([1, 2, 6, 9, 11], [0, 1], ())).1.1)) && (tt 2 (fl0 (v36 ([1, 2, 6, 9, 11], [0, 1], ())).1.2.1))) then some ((Dk.reO ODc0 (v36 ([1, 2, 6, 9, 11], [0, 1], ())).1), (v36 ([1, 2, 6, 9, 11], [0, 1], ())).2) else none) else none)
 else
 (bif (decide (a0 = 2)) then
 (bif (tt 2 (k36 ([1, 2, 6, 9, 11], [0, 1, 2, 4], ()))) then (bif ((tt 1 (fl0 (v36 ([1, 2, 6, 9, 11], [0, 1, 2, 4], ())).1.1)) && (tt 2 (fl0 (v36 ([1, 2, 6, 9, 11], [0, 1, 2, 4], ())).1.2.1))) then some ((Dk.reO ODc0 (v36 ([1, 2, 6, 9, 11], [0, 1, 2, 4], ())).1), (v36 ([1, 2, 6, 9, 11], [0, 1, 2, 4], ())).2) else none) else none)
 else
 (bif (decide (a0 = 3)) then
 (bif (tt 2 (k36 ([1, 9, 11], [0, 1], ()))) then (bif ((tt 1 (fl0 (v36 ([1, 9, 11], [0, 1], ())).1.1)) && (tt 2 (fl0 (v36 ([1, 9, 11], [0, 1], ())).1.2.1))) then some ((Dk.reO ODc0 (v36 ([1, 9, 11], [0, 1], ())).1), (v36 ([1, 9, 11], [0, 1], ())).2) else none) else none)
 else
 (bif (decide (a0 = 5)) then
 (bif (tt 2 (k36 ([], [], ()))) then (bif ((tt 1 (fl0 (v36 ([], [], ())).1.1)) && (tt 2 (fl0 (v36 ([], [], ())).1.2.1))) then some ((Dk.reO ODc0 (v36 ([], [], ())).1), (v36 ([], [], ())).2) else none) else none)
 else
 (bif (decide (a0 = 7)) then
 (bif (tt 2 (k36 ([], [], ()))) then (bif ((tt 1 (fl0 (v36 ([], [], ())).1.1)) && (tt 2 (fl0 (v36 ([], [], ())).1.2.1))) then some ((Dk.reO ODc0 (v36 ([], [], ())).1), (v36 ([], [], ())).2) else none) else none)
 else
 (bif (decide (a0 = 8)) then
 (bif (tt 2 (k36 ([], [], ()))) then (bif ((tt 1 (fl0 (v36 ([], [], ())).1.1)) && (tt 2 (fl0 (v36 ([], [], ())).1.2.1))) then some ((Dk.reO ODc0 (v36 ([], [], ())).1), (v36 ([], [], ())).2) else none) else none)
 else
 (bif (decide (a0 = 12)) then
 (bif (tt 2 (k36 ([3], [5, 0, 4], ()))) then (bif ((tt 1 (fl0 (v36 ([3], [5, 0, 4], ())).1.1)) && (tt 2 (fl0 (v36 ([3], [5, 0, 4], ())).1.2.1))) then some ((Dk.reO ODc0 (v36 ([3], [5, 0, 4], ())).1), (v36 ([3], [5, 0, 4], ())).2) else none) else none)
 else
 (bif (decide (a0 = 44)) then
 (bif (tt 2 (k36 ([], [5, 4], ()))) then (bif ((tt 1 (fl0 (v36 ([], [5, 4], ())).1.1)) && (tt 2 (fl0 (v36 ([], [5, 4], ())).1.2.1))) then some ((Dk.reO ODc0 (v36 ([], [5, 4], ())).1), (v36 ([], [5, 4], ())).2) else none) else none)
 else
 (bif (decide (a0 = 87)) then
 (bif (tt 2 (k36 ([22, 23], [0, 2, 4], ()))) then (bif ((tt 1 (fl0 (v36 ([22, 23], [0, 2, 4], ())).1.1)) && (tt 2 (fl0 (v36 ([22, 23], [0, 2, 4], ())).1.2.1))) then some ((Dk.reO ODc0 (v36 ([22, 23], [0, 2, 4], ())).1), (v36 ([22, 23], [0, 2, 4], ())).2) else none) else none)
 else
 (bif (decide (a0 = 88)) then
 (bif (tt 2 (k36 ([22, 23], [0, 3], ()))) then (bif ((tt 1 (fl0 (v36 ([22, 23], [0, 3], ())).1.1)) && (tt 2 (fl0 (v36 ([22, 23], [0, 3], ())).1.2.1))) then some ((Dk.reO ODc0 (v36 ([22, 23], [0, 3], ())).1), (v36 ([22, 23], [0, 3], ())).2) else none) else none)
 else
 (bif (decide (a0 = 89)) then
 (bif (tt 2 (k36 ([22, 23], [0, 3], ()))) then (bif ((tt 1 (fl0 (v36 ([22, 23], [0, 3], ())).1.1)) && (tt 2 (fl0 (v36 ([22, 23], [0, 3], ())).1.2.1))) then some ((Dk.reO ODc0 (v36 ([22, 23], [0, 3], ())).1), (v36 ([22, 23], [0, 3], ())).2) else none) else none)
 else
 (bif (decide (a0 = 130)) then
 (bif (tt 2 (k36 ([27], [0, 7, 6, 4], ()))) then (bif ((tt 1 (fl0 (v36 ([27], [0, 7, 6, 4], ())).1.1)) && (tt 2 (fl0 (v36 ([27], [0, 7, 6, 4], ())).1.2.1))) then some ((Dk.reO ODc0 (v36 ([27], [0, 7, 6, 4], ())).1), (v36 ([27], [0, 7, 6, 4], ())).2) else none) else none)
 else
 (bif (decide (a0 = 131)) then
 (bif (tt 2 (k36 ([27], [0, 6, 4], ()))) then (bif ((tt 1 (fl0 (v36 ([27], [0, 6, 4], ())).1.1)) && (tt 2 (fl0 (v36 ([27], [0, 6, 4], ())).1.2.1))) then some ((Dk.reO ODc0 (v36 ([27], [0, 6, 4], ())).1), (v36 ([27], [0, 6, 4], ())).2) else none) else none)
 else
 (bif (decide (a0 = 132)) then
 (bif (tt 2 (k36 ([], [8, 4], ()))) then (bif ((tt 1 (fl0 (v36 ([], [8, 4], ())).1.1)) && (tt 2 (fl0 (v36 ([], [8, 4], ())).1.2.1))) then some ((Dk.reO ODc0 (v36 ([], [8, 4], ())).1), (v36 ([], [8, 4], ())).2) else none) else none)
 else
 (bif (decide (a0 = 133)) then
 (bif (tt 2 (k36 ([], [8, 4], ()))) then (bif ((tt 1 (fl0 (v36 ([], [8, 4], ())).1.1)) && (tt 2 (fl0 (v36 ([], [8, 4], ())).1.2.1))) then some ((Dk.reO ODc0 (v36 ([], [8, 4], ())).1), (v36 ([], [8, 4], ())).2) else none) else none)
 else
 some (([], ([], ())), false))))))))))))))))
theorem t16g (v36 : Yc0 → (KDc12 × Bool)) (k36 : Yc0 → Bool) (a0 : Int) : fnV2 (CxL Tryo.Θ (kOf [(36, smG2 [.mv ODc4, .mv ODc5] ODc0 .bool 2 v36 k36)]) (lOf [])) Tryo.f16 [.p (.v (.int .i64))] 0 ODc0 .bool (a0, ()) = S16g v36 k36 a0 := by kernel_rfl
noncomputable def S9g (v16 : (Int × Unit) → (KDc12 × Bool)) (k16 : (Int × Unit) → Bool) (v17 : (KDc20 × Unit) → Int) (k17 : (KDc20 × Unit) → Bool) (v18 : (KDc21 × Unit) → KDc21) (k18 : (KDc21 × Unit) → Bool) (v19 : (Unit) → KDc15) (k19 : (Unit) → Bool) (v20 : (Int × Unit) → KDc15) (k20 : (Int × Unit) → Bool) (v21 : (KDc15 × Int × Unit) → KDc15) (k21 : (KDc15 × Int × Unit) → Bool) (v24 : (KDc15 × Unit) → (Int × (Bool × Unit))) (k24 : (KDc15 × Unit) → Bool) (v25 : ((List Int) × Int × Unit) → Bool) (k25 : ((List Int) × Int × Unit) → Bool) (a0 : KDc21) (a1 : (List (Int × KDc16))) (a2 : Int) : Option (KDc21 × Int) :=
 (bif (!(v16 (a2, ())).2) then
 (bif (tt 2 (k16 (a2, ()))) then some (([], ([], (0, ([], (0, ()))))), 66) else none)
 else
 (bif (!(decide ((v17 (((Dk.reI ODc1 a0), (a1, ((Dk.reO ODc2 (v16 (a2, ())).1), ()))), ())) = 0))) then
 (bif (((k17 (((Dk.reI ODc1 a0), (a1, ((Dk.reO ODc2 (v16 (a2, ())).1), ()))), ())) && (tt 2 ((tt 1 (flI a0.2.2.2.1)) && (tt 1 ((flO (v16 (a2, ())).1.1) && (tt 1 (flO (v16 (a2, ())).1.2.1))))))) && (tt 2 (k16 (a2, ())))) then some (([], ([], (0, ([], (0, ()))))), (v17 (((Dk.reI ODc1 a0), (a1, ((Dk.reO ODc2 (v16 (a2, ())).1), ()))), ()))) else none)
 else
 (bif (decide (a2 = 1)) then
 (bif ((k20 (0, ())) && ((k19 (())) && (((k18 ((Dk.reI ODc1 a0), ())) && (tt 2 (flI a0.2.2.2.1))) && (((k17 (((Dk.reI ODc1 a0), (a1, ((Dk.reO ODc2 (v16 (a2, ())).1), ()))), ())) && (tt 2 ((tt 1 (flI a0.2.2.2.1)) && (tt 1 ((flO (v16 (a2, ())).1.1) && (tt 1 (flO (v16 (a2, ())).1.2.1))))))) && (tt 2 (k16 (a2, ()))))))) then (bif (tt 1 (flO (v18 ((Dk.reI ODc1 a0), ())).2.2.2.1)) then some (((lset rZ (cutIn rZ (v18 ((Dk.reI ODc1 a0), ())).1 1 (List.replicate 5 rZ)) 0 (8, ((v20 (0, ())), (((v18 ((Dk.reI ODc1 a0), ())).1.getD 1 rZ).2.2.1, ((IntKind.wrap .i64 ((v18 ((Dk.reI ODc1 a0), ())).2.2.2.2.1 + 1)), (0, ())))))), ((v18 ((Dk.reI ODc1 a0), ())).2.1, ((v18 ((Dk.reI ODc1 a0), ())).2.2.1, ((seO 0 (v18 ((Dk.reI ODc1 a0), ())).2.2.2.1), ((IntKind.wrap .i64 ((v18 ((Dk.reI ODc1 a0), ())).2.2.2.2.1 + 1)), (v18 ((Dk.reI ODc1 a0), ())).2.2.2.2.2))))), 0) else none) else none)
 else
 (bif (decide (a2 = 8)) then
 (bif ((k21 ((v19 (())), 32, ())) && ((k19 (())) && (((k18 ((Dk.reI ODc1 a0), ())) && (tt 2 (flI a0.2.2.2.1))) && (((k17 (((Dk.reI ODc1 a0), (a1, ((Dk.reO ODc2 (v16 (a2, ())).1), ()))), ())) && (tt 2 ((tt 1 (flI a0.2.2.2.1)) && (tt 1 ((flO (v16 (a2, ())).1.1) && (tt 1 (flO (v16 (a2, ())).1.2.1))))))) && (tt 2 (k16 (a2, ()))))))) then (bif (tt 1 (flO (v18 ((Dk.reI ODc1 a0), ())).2.2.2.1)) then some (((lset rZ (cutIn rZ (v18 ((Dk.reI ODc1 a0), ())).1 1 (List.replicate 5 rZ)) 0 (1, ((v21 ((v19 (())), 32, ())), (0, (0, (0, ())))))), (Dk.reO ODc3 (v18 ((Dk.reI ODc1 a0), ())).2)), 0) else none) else none)
 else
 (bif (decide (a2 = 12)) then
 (bif (decide ((((v18 ((Dk.reI ODc1 a0), ())).2.2.2.1.length : Nat) : Int) > 0)) then
 (bif ((k19 (())) && (((k18 ((Dk.reI ODc1 a0), ())) && (tt 2 (flI a0.2.2.2.1))) && (((k17 (((Dk.reI ODc1 a0), (a1, ((Dk.reO ODc2 (v16 (a2, ())).1), ()))), ())) && (tt 2 ((tt 1 (flI a0.2.2.2.1)) && (tt 1 ((flO (v16 (a2, ())).1.1) && (tt 1 (flO (v16 (a2, ())).1.2.1))))))) && (tt 2 (k16 (a2, ())))))) then some (([], ([], (0, ([], (0, ()))))), 67) else none)
 else
 (bif ((k19 (())) && (((k18 ((Dk.reI ODc1 a0), ())) && (tt 2 (flI a0.2.2.2.1))) && (((k17 (((Dk.reI ODc1 a0), (a1, ((Dk.reO ODc2 (v16 (a2, ())).1), ()))), ())) && (tt 2 ((tt 1 (flI a0.2.2.2.1)) && (tt 1 ((flO (v16 (a2, ())).1.1) && (tt 1 (flO (v16 (a2, ())).1.2.1))))))) && (tt 2 (k16 (a2, ())))))) then (bif (tt 1 (flO (v18 ((Dk.reI ODc1 a0), ())).2.2.2.1)) then some (((lset rZ (cutIn rZ (v18 ((Dk.reI ODc1 a0), ())).1 1 (List.replicate 5 rZ)) 0 (1, ((v19 (())), (0, (0, (0, ())))))), (Dk.reO ODc3 (v18 ((Dk.reI ODc1 a0), ())).2)), 0) else none) else none))
 else
 (bif (decide (a2 = 44)) then
 none
 else
 (bif (decide (a2 = 88)) then
 none
 else
 (bif (decide (a2 = 89)) then
 none
 else
 (bif (decide (a2 = 131)) then
 (bif ((k20 (0, ())) && (((tt 1 (fl0 (v18 ((Dk.reI ODc1 a0), ())).2.2.2.1)) && (tt 1 (decide (((v18 ((Dk.reI ODc1 a0), ())).2.2.2.1.length + 1) * 8 ≤ 140737488355328)))) && ((k24 (((v18 ((Dk.reI ODc1 a0), ())).1.getD 2 rZ).2.1, ())) && ((k19 (())) && (((k18 ((Dk.reI ODc1 a0), ())) && (tt 2 (flI a0.2.2.2.1))) && (((k17 (((Dk.reI ODc1 a0), (a1, ((Dk.reO ODc2 (v16 (a2, ())).1), ()))), ())) && (tt 2 ((tt 1 (flI a0.2.2.2.1)) && (tt 1 ((flO (v16 (a2, ())).1.1) && (tt 1 (flO (v16 (a2, ())).1.2.1))))))) && (tt 2 (k16 (a2, ()))))))))) then (bif (tt 1 ((decide (((0 + ((v18 ((Dk.reI ODc1 a0), ())).2.2.2.1.length + 1)) : Nat) ≤ ((v18 ((Dk.reI ODc1 a0), ())).2.2.2.1.length + 1))) || (Nat.beq ((v18 ((Dk.reI ODc1 a0), ())).2.2.2.1.length + 1) 0))) then some (((lset rZ (cutIn rZ (v18 ((Dk.reI ODc1 a0), ())).1 1 (List.replicate 5 rZ)) 0 (10, ((v20 (0, ())), (0, ((IntKind.wrap .i64 ((v18 ((Dk.reI ODc1 a0), ())).2.2.2.2.1 + 1)), ((IntKind.wrap .i64 (v24 (((v18 ((Dk.reI ODc1 a0), ())).1.getD 2 rZ).2.1, ())).1), ())))))), ((v18 ((Dk.reI ODc1 a0), ())).2.1, ((v18 ((Dk.reI ODc1 a0), ())).2.2.1, ((sec 0 ((seO 0 (v18 ((Dk.reI ODc1 a0), ())).2.2.2.1) ++ ([(IntKind.wrap .i64 ((v18 ((Dk.reI ODc1 a0), ())).2.2.2.2.1 + 1))] : List Int)) 0 ((v18 ((Dk.reI ODc1 a0), ())).2.2.2.1.length + 1)), ((IntKind.wrap .i64 ((v18 ((Dk.reI ODc1 a0), ())).2.2.2.2.1 + 1)), (v18 ((Dk.reI ODc1 a0), ())).2.2.2.2.2))))), 0) else none) else none)
 else
 (bif (decide (a2 = 132)) then
 (bif (!(v25 ((seO 0 (v18 ((Dk.reI ODc1 a0), ())).2.2.2.1), ((v18 ((Dk.reI ODc1 a0), ())).1.getD 1 rZ).2.2.2.1, ()))) then
 (bif (((k25 ((seO 0 (v18 ((Dk.reI ODc1 a0), ())).2.2.2.1), ((v18 ((Dk.reI ODc1 a0), ())).1.getD 1 rZ).2.2.2.1, ())) && (tt 1 (flO (v18 ((Dk.reI ODc1 a0), ())).2.2.2.1))) && ((k19 (())) && (((k18 ((Dk.reI ODc1 a0), ())) && (tt 2 (flI a0.2.2.2.1))) && (((k17 (((Dk.reI ODc1 a0), (a1, ((Dk.reO ODc2 (v16 (a2, ())).1), ()))), ())) && (tt 2 ((tt 1 (flI a0.2.2.2.1)) && (tt 1 ((flO (v16 (a2, ())).1.1) && (tt 1 (flO (v16 (a2, ())).1.2.1))))))) && (tt 2 (k16 (a2, ()))))))) then some (([], ([], (0, ([], (0, ()))))), 67) else none)
 else
 none)
 else
 (bif (decide (a2 = 133)) then
 (bif (!(v25 ((seO 0 (v18 ((Dk.reI ODc1 a0), ())).2.2.2.1), ((v18 ((Dk.reI ODc1 a0), ())).1.getD 1 rZ).2.2.2.1, ()))) then
 (bif (((k25 ((seO 0 (v18 ((Dk.reI ODc1 a0), ())).2.2.2.1), ((v18 ((Dk.reI ODc1 a0), ())).1.getD 1 rZ).2.2.2.1, ())) && (tt 1 (flO (v18 ((Dk.reI ODc1 a0), ())).2.2.2.1))) && ((k19 (())) && (((k18 ((Dk.reI ODc1 a0), ())) && (tt 2 (flI a0.2.2.2.1))) && (((k17 (((Dk.reI ODc1 a0), (a1, ((Dk.reO ODc2 (v16 (a2, ())).1), ()))), ())) && (tt 2 ((tt 1 (flI a0.2.2.2.1)) && (tt 1 ((flO (v16 (a2, ())).1.1) && (tt 1 (flO (v16 (a2, ())).1.2.1))))))) && (tt 2 (k16 (a2, ()))))))) then some (([], ([], (0, ([], (0, ()))))), 67) else none)
 else
 none)
 else
 (bif ((k19 (())) && (((k18 ((Dk.reI ODc1 a0), ())) && (tt 2 (flI a0.2.2.2.1))) && (((k17 (((Dk.reI ODc1 a0), (a1, ((Dk.reO ODc2 (v16 (a2, ())).1), ()))), ())) && (tt 2 ((tt 1 (flI a0.2.2.2.1)) && (tt 1 ((flO (v16 (a2, ())).1.1) && (tt 1 (flO (v16 (a2, ())).1.2.1))))))) && (tt 2 (k16 (a2, ())))))) then (bif (tt 1 (flO (v18 ((Dk.reI ODc1 a0), ())).2.2.2.1)) then some (((lset rZ (cutIn rZ (v18 ((Dk.reI ODc1 a0), ())).1 1 (List.replicate 5 rZ)) 0 (1, ((v19 (())), (0, (0, (0, ())))))), (Dk.reO ODc3 (v18 ((Dk.reI ODc1 a0), ())).2)), 0) else none) else none))))))))))))
theorem t9g (v16 : (Int × Unit) → (KDc12 × Bool)) (k16 : (Int × Unit) → Bool) (v17 : (KDc20 × Unit) → Int) (k17 : (KDc20 × Unit) → Bool) (v18 : (KDc21 × Unit) → KDc21) (k18 : (KDc21 × Unit) → Bool) (v19 : (Unit) → KDc15) (k19 : (Unit) → Bool) (v20 : (Int × Unit) → KDc15) (k20 : (Int × Unit) → Bool) (v21 : (KDc15 × Int × Unit) → KDc15) (k21 : (KDc15 × Int × Unit) → Bool) (v24 : (KDc15 × Unit) → (Int × (Bool × Unit))) (k24 : (KDc15 × Unit) → Bool) (v25 : ((List Int) × Int × Unit) → Bool) (k25 : ((List Int) × Int × Unit) → Bool) (a0 : KDc21) (a1 : (List (Int × KDc16))) (a2 : Int) : fnW2 (CxL Tryo.Θ (kOf [(16, smG2 [.p (.v (.int .i64))] ODc0 .bool 2 v16 k16), (17, smG [.bv 0 ODc6] (.v (.int .i64)) 0 v17 k17), (18, smG [.im ODc1] ODc1 1 v18 k18), (19, sm [] (.pair KTc1 KTc1) v19 k19), (20, sm [(.int .u64)] (.pair KTc1 KTc1) v20 k20), (21, sm [(.pair KTc1 KTc1), (.int .i64)] (.pair KTc1 KTc1) v21 k21), (24, sm [(.pair KTc1 KTc1)] KTc14 v24 k24), (25, smG [.p ODc4, .p (.v (.int .i64))] (.v .bool) 0 v25 k25)]) (lOf [])) Tryo.f9 [.im ODc1, .p (.v (.vsl KTc13)), .p (.v (.int .i64))] 1 ODc1 (.int .i64) (a0, a1, a2, ()) = S9g v16 k16 v17 k17 v18 k18 v19 k19 v20 k20 v21 k21 v24 k24 v25 k25 a0 a1 a2 := by kernel_rfl
end Go.Proofs.Po
