import Derived.Test.YtfhpihomdnbgpaaIC
import Derived.Test.YtfhpihomdnbgpaaGd
namespace Go.Proofs.Po.Pl
open Go.GX
set_option linter.unusedVariables false
set_option maxRecDepth 100000
@[reducible] def KTp0 : Ty := (.pair (.int .u64) .unit)
@[reducible] def KTp1 : Ty := (.pair (.int .u64) KTp0)
@[reducible] def KTp2 : Ty := (.pair (.int .i64) .unit)
@[reducible] def KTp3 : Ty := (.pair (.int .i64) KTp2)
@[reducible] def KTp4 : Ty := (.pair (.int .i64) KTp3)
@[reducible] def KTp5 : Ty := (.pair (.pair KTp1 KTp1) KTp4)
@[reducible] def KTp6 : Ty := (.pair (.int .i64) KTp5)
@[reducible] def KTp7 : Ty := (.pair (.int .i64) (.pair KTp6 .unit))
@[reducible] def KTp8 : Ty := (.pair (.int .i64) KTp7)
@[reducible] def KTp9 : Ty := (.pair (.vsl (.int .i64)) KTp2)
@[reducible] def KTp10 : Ty := (.pair (.int .i64) KTp9)
@[reducible] def KTp11 : Ty := (.pair (.arr 64 KTp8) KTp10)
@[reducible] def KTp12 : Ty := (.pair (.arr 11 KTp6) KTp11)
@[reducible] def KTp13 : Ty := (.tup (.int .u64) (.tup .bool .tnil))
@[reducible] def KTp14 : Ty := (.tup (.int .i64) .tnil)
@[reducible] def KDp15 : Type := ((Int × (Int × Unit)) × (Int × (Int × Unit)))
@[reducible] def KDp16 : Type := (Int × (Int × (Int × Unit)))
@[reducible] def KDp17 : Type := (List (Int × (KDp15 × KDp16)))
@[reducible] def KDp18 : Type := ((Int × (KDp15 × KDp16)) × Unit)
@[reducible] def KDp19 : Type := (List (Int × (Int × KDp18)))
@[reducible] def KDp20 : Type := ((List Int) × (Int × Unit))
@[reducible] def KDp21 : Type := (KDp17 × (KDp19 × (Int × KDp20)))
@[reducible] def KTp22 : Ty := (.pair (.vsl (.int .i64)) .unit)
@[reducible] def KTp23 : Ty := (.pair (.vsl (.int .i64)) KTp22)
@[reducible] def KTp24 : Ty := (.tup KTp23 (.tup .bool .tnil))
@[reducible] def KTp25 : Ty := (.pair (.int .i64) KTp4)
@[reducible] def KTp26 : Ty := (.pair (.vsl KTp25) (.pair KTp23 .unit))
@[reducible] def ODp0 : Dk := (.v (.pair KTp12 KTp26))
@[reducible] def KDp27 : Type := ((List Int) × ((List Int) × Unit))
@[reducible] def KDp28 : Type := ((List (Int × KDp16)) × (KDp27 × Unit))
@[reducible] def Yd0 : Type := (Unit × Unit × Int × Int × Int × KDp21 × KDp21 × Unit)
@[reducible] def Yd1 : Type := (KDp21 × Int × Int × (Int × (KDp15 × KDp16)) × Unit)
@[reducible] def Yd2 : Type := (Unit × Unit × KDp21 × KDp21 × Unit)
@[reducible] def Yd3 : Type := (KDp21 × Int × Unit)
def hd23_0 : List It := [.pt 4 ⟨0, [0]⟩, .pt 6 ⟨1, [0]⟩, .sl 8 (.int .u64), .sl 24 (.int .i64), .sl 25 (.int .i64), .bl 0 KTp12, .bl 1 KTp12]
def ys23_0 : Ways := [((.exit 0), [.pt 4 ⟨0, [0]⟩, .pt 6 ⟨1, [0]⟩, .bl 0 KTp12, .bl 1 KTp12])]
noncomputable def R23_0 (v19 : (Unit) → KDp15) (k19 : (Unit) → Bool) (v24 : (KDp15 × Unit) → (Int × (Bool × Unit))) (k24 : (KDp15 × Unit) → Bool) (v45 : Yd1 → (KDp21 × (Int × Unit))) (k45 : Yd1 → Bool) (lv0 : Yd0 → Yd2) (lk0 : Yd0 → Bool) (x0 : Unit) (x1 : Unit) (x2 : Int) (x3 : Int) (x4 : Int) (x5 : KDp21) (x6 : KDp21) : Option (Yd0 ⊕ Yd2) :=
 (bif (decide (x4 < x3)) then
 (bif (tt 1 ((k45 (x5, (IntKind.wrap .i64 ((IntKind.wrap .i64 x2) + x4)), 1, (1, ((v19 (())), (0, (0, (0, ()))))), ())) && (tt 1 (k19 (()))))) then some (.inl ((), (), x2, x3, (IntKind.wrap .i64 (x4 + 1)), (v45 (x5, (IntKind.wrap .i64 ((IntKind.wrap .i64 x2) + x4)), 1, (1, ((v19 (())), (0, (0, (0, ()))))), ())).1, x6, ())) else none)
 else
 some (.inr ((), (), x5, x6, ())))
theorem r23_0 (v19 : (Unit) → KDp15) (k19 : (Unit) → Bool) (v24 : (KDp15 × Unit) → (Int × (Bool × Unit))) (k24 : (KDp15 × Unit) → Bool) (v45 : Yd1 → (KDp21 × (Int × Unit))) (k45 : Yd1 → Bool) (lv0 : Yd0 → Yd2) (lk0 : Yd0 → Bool) (x0 : Unit) (x1 : Unit) (x2 : Int) (x3 : Int) (x4 : Int) (x5 : KDp21) (x6 : KDp21) : codeT (CxL Try.Θ (kOf [(19, sm [] (.pair KTp1 KTp1) v19 k19), (24, sm [(.pair KTp1 KTp1)] KTp13 v24 k24), (45, sm [KTp12, (.int .i64), (.int .i64), KTp6] (.tup KTp12 KTp14) v45 k45)]) (lOf [(0, orc 41 27 0 hd23_0 ys23_0 lv0 lk0)])) (loopB 0 (bodyF Try.f23)) (mkS 41 27 hd23_0 (x0, x1, x2, x3, x4, x5, x6, ())) (leafR 41 hd23_0 ys23_0) = R23_0 v19 k19 v24 k24 v45 k45 lv0 lk0 x0 x1 x2 x3 x4 x5 x6 := by kernel_rfl
noncomputable def S23 (v19 : (Unit) → KDp15) (k19 : (Unit) → Bool) (v24 : (KDp15 × Unit) → (Int × (Bool × Unit))) (k24 : (KDp15 × Unit) → Bool) (v45 : Yd1 → (KDp21 × (Int × Unit))) (k45 : Yd1 → Bool) (lv0 : Yd0 → Yd2) (lk0 : Yd0 → Bool) (a0 : KDp21) (a1 : Int) : Option KDp21 :=
 (bif (!(decide ((a0.1.getD 2 rZ).1 = 3))) then
 some a0
 else
 (bif ((lk0 ((), (), (v24 ((a0.1.getD 2 rZ).2.1, ())).1, a1, 0, a0, ([], ([], (0, ([], (0, ()))))), ())) && (tt 2 (k24 ((a0.1.getD 2 rZ).2.1, ())))) then some (lv0 ((), (), (v24 ((a0.1.getD 2 rZ).2.1, ())).1, a1, 0, a0, ([], ([], (0, ([], (0, ()))))), ())).2.2.1 else none))
theorem t23 (v19 : (Unit) → KDp15) (k19 : (Unit) → Bool) (v24 : (KDp15 × Unit) → (Int × (Bool × Unit))) (k24 : (KDp15 × Unit) → Bool) (v45 : Yd1 → (KDp21 × (Int × Unit))) (k45 : Yd1 → Bool) (lv0 : Yd0 → Yd2) (lk0 : Yd0 → Bool) (a0 : KDp21) (a1 : Int) : fnU (CxL Try.Θ (kOf [(19, sm [] (.pair KTp1 KTp1) v19 k19), (24, sm [(.pair KTp1 KTp1)] KTp13 v24 k24), (45, sm [KTp12, (.int .i64), (.int .i64), KTp6] (.tup KTp12 KTp14) v45 k45)]) (lOf [(0, orc 41 27 0 hd23_0 ys23_0 lv0 lk0)])) Try.f23 KTp12 [⟨KTp12, a0⟩, ⟨(.int .i64), a1⟩] = S23 v19 k19 v24 k24 v45 k45 lv0 lk0 a0 a1 := by kernel_rfl
noncomputable def S9 (v16 : (Int × Unit) → (KDp27 × (Bool × Unit))) (k16 : (Int × Unit) → Bool) (v17 : (KDp21 × KDp28) → (Unit) → Int) (k17 : (KDp21 × KDp28) → (Unit) → Bool) (v18 : (KDp21 × Unit) → KDp21) (k18 : (KDp21 × Unit) → Bool) (v19 : (Unit) → KDp15) (k19 : (Unit) → Bool) (v20 : (Int × Unit) → KDp15) (k20 : (Int × Unit) → Bool) (v21 : (KDp15 × Int × Unit) → KDp15) (k21 : (KDp15 × Int × Unit) → Bool) (v22 : (KDp21 × Unit) → KDp21) (k22 : (KDp21 × Unit) → Bool) (v23 : Yd3 → KDp21) (k23 : Yd3 → Bool) (v24 : (KDp15 × Unit) → (Int × (Bool × Unit))) (k24 : (KDp15 × Unit) → Bool) (v25 : ((List Int) × Int × Unit) → Bool) (k25 : ((List Int) × Int × Unit) → Bool) (v26 : Yd3 → KDp21) (k26 : Yd3 → Bool) (a0 : KDp21) (a1 : (List (Int × KDp16))) (a2 : Int) : Option (KDp21 × (Int × Unit)) :=
 (bif (!(v16 (a2, ())).2.1) then
 (bif (tt 1 (k16 (a2, ()))) then some (([], ([], (0, ([], (0, ()))))), 66, ()) else none)
 else
 (bif (!(decide ((v17 (a0, (a1, ((v16 (a2, ())).1, ()))) (())) = 0))) then
 (bif ((tt 1 (k17 (a0, (a1, ((v16 (a2, ())).1, ()))) (()))) && (tt 1 (k16 (a2, ())))) then some (([], ([], (0, ([], (0, ()))))), (v17 (a0, (a1, ((v16 (a2, ())).1, ()))) (())), ()) else none)
 else
 (bif (decide (a2 = 1)) then
 (bif ((k20 (0, ())) && ((k19 (())) && ((k18 (a0, ())) && ((tt 1 (k17 (a0, (a1, ((v16 (a2, ())).1, ()))) (()))) && (tt 1 (k16 (a2, ()))))))) then some (((lset rZ (cutIn rZ (v18 (a0, ())).1 1 (List.replicate 5 rZ)) 0 (8, ((v20 (0, ())), (((v18 (a0, ())).1.getD 1 rZ).2.2.1, ((IntKind.wrap .i64 ((v18 (a0, ())).2.2.2.2.1 + 1)), (0, ())))))), ((v18 (a0, ())).2.1, ((v18 (a0, ())).2.2.1, ((v18 (a0, ())).2.2.2.1, ((IntKind.wrap .i64 ((v18 (a0, ())).2.2.2.2.1 + 1)), (v18 (a0, ())).2.2.2.2.2))))), 0, ()) else none)
 else
 (bif (decide (a2 = 8)) then
 (bif ((k21 ((v19 (())), 32, ())) && ((k19 (())) && ((k18 (a0, ())) && ((tt 1 (k17 (a0, (a1, ((v16 (a2, ())).1, ()))) (()))) && (tt 1 (k16 (a2, ()))))))) then some (((lset rZ (cutIn rZ (v18 (a0, ())).1 1 (List.replicate 5 rZ)) 0 (1, ((v21 ((v19 (())), 32, ())), (0, (0, (0, ())))))), (v18 (a0, ())).2), 0, ()) else none)
 else
 (bif (decide (a2 = 12)) then
 (bif (decide ((((v18 (a0, ())).2.2.2.1.length : Nat) : Int) > 0)) then
 (bif ((k19 (())) && ((k18 (a0, ())) && ((tt 1 (k17 (a0, (a1, ((v16 (a2, ())).1, ()))) (()))) && (tt 1 (k16 (a2, ())))))) then some (([], ([], (0, ([], (0, ()))))), 67, ()) else none)
 else
 (bif ((k19 (())) && ((k18 (a0, ())) && ((tt 1 (k17 (a0, (a1, ((v16 (a2, ())).1, ()))) (()))) && (tt 1 (k16 (a2, ())))))) then some (((lset rZ (cutIn rZ (v18 (a0, ())).1 1 (List.replicate 5 rZ)) 0 (1, ((v19 (())), (0, (0, (0, ())))))), (v18 (a0, ())).2), 0, ()) else none))
 else
 (bif (decide (a2 = 44)) then
 (bif ((k22 ((v18 (a0, ())), ())) && ((k19 (())) && ((k18 (a0, ())) && ((tt 1 (k17 (a0, (a1, ((v16 (a2, ())).1, ()))) (()))) && (tt 1 (k16 (a2, ()))))))) then some (((lset rZ (cutIn rZ (v22 ((v18 (a0, ())), ())).1 1 (List.replicate 5 rZ)) 0 (1, ((v19 (())), (0, (0, (0, ())))))), (v22 ((v18 (a0, ())), ())).2), 0, ()) else none)
 else
 (bif (decide (a2 = 88)) then
 (bif ((k23 ((v18 (a0, ())), (a1.getD (Int.toNat ((v18 (a0, ())).1.getD 1 rZ).2.2.1) (0, (0, (0, (0, ()))))).2.2.1, ())) && (((decide (0 ≤ ((v18 (a0, ())).1.getD 1 rZ).2.2.1)) && (decide (((v18 (a0, ())).1.getD 1 rZ).2.2.1 < ((a1.length : Nat) : Int)))) && ((k19 (())) && ((k18 (a0, ())) && ((tt 1 (k17 (a0, (a1, ((v16 (a2, ())).1, ()))) (()))) && (tt 1 (k16 (a2, ())))))))) then some (((lset rZ (cutIn rZ (v23 ((v18 (a0, ())), (a1.getD (Int.toNat ((v18 (a0, ())).1.getD 1 rZ).2.2.1) (0, (0, (0, (0, ()))))).2.2.1, ())).1 1 (List.replicate 5 rZ)) 0 (1, ((v19 (())), (0, (0, (0, ())))))), (v23 ((v18 (a0, ())), (a1.getD (Int.toNat ((v18 (a0, ())).1.getD 1 rZ).2.2.1) (0, (0, (0, (0, ()))))).2.2.1, ())).2), 0, ()) else none)
 else
 (bif (decide (a2 = 89)) then
 (bif ((k23 ((v18 (a0, ())), (a1.getD (Int.toNat ((v18 (a0, ())).1.getD 1 rZ).2.2.1) (0, (0, (0, (0, ()))))).2.2.1, ())) && (((decide (0 ≤ ((v18 (a0, ())).1.getD 1 rZ).2.2.1)) && (decide (((v18 (a0, ())).1.getD 1 rZ).2.2.1 < ((a1.length : Nat) : Int)))) && ((k19 (())) && ((k18 (a0, ())) && ((tt 1 (k17 (a0, (a1, ((v16 (a2, ())).1, ()))) (()))) && (tt 1 (k16 (a2, ())))))))) then some (((lset rZ (cutIn rZ (v23 ((v18 (a0, ())), (a1.getD (Int.toNat ((v18 (a0, ())).1.getD 1 rZ).2.2.1) (0, (0, (0, (0, ()))))).2.2.1, ())).1 1 (List.replicate 5 rZ)) 0 (1, ((v19 (())), (0, (0, (0, ())))))), (v23 ((v18 (a0, ())), (a1.getD (Int.toNat ((v18 (a0, ())).1.getD 1 rZ).2.2.1) (0, (0, (0, (0, ()))))).2.2.1, ())).2), 0, ()) else none)
 else
 (bif (decide (a2 = 131)) then
 none
 else
 (bif (decide (a2 = 132)) then
 (bif (!(v25 ((v18 (a0, ())).2.2.2.1, ((v18 (a0, ())).1.getD 1 rZ).2.2.2.1, ()))) then
 (bif ((k25 ((v18 (a0, ())).2.2.2.1, ((v18 (a0, ())).1.getD 1 rZ).2.2.2.1, ())) && ((k19 (())) && ((k18 (a0, ())) && ((tt 1 (k17 (a0, (a1, ((v16 (a2, ())).1, ()))) (()))) && (tt 1 (k16 (a2, ()))))))) then some (([], ([], (0, ([], (0, ()))))), 67, ()) else none)
 else
 (bif ((k26 ((v18 (a0, ())), ((v18 (a0, ())).1.getD 1 rZ).2.2.2.1, ())) && ((k25 ((v18 (a0, ())).2.2.2.1, ((v18 (a0, ())).1.getD 1 rZ).2.2.2.1, ())) && ((k19 (())) && ((k18 (a0, ())) && ((tt 1 (k17 (a0, (a1, ((v16 (a2, ())).1, ()))) (()))) && (tt 1 (k16 (a2, ())))))))) then some (((lset rZ (cutIn rZ (v26 ((v18 (a0, ())), ((v18 (a0, ())).1.getD 1 rZ).2.2.2.1, ())).1 1 (List.replicate 5 rZ)) 0 (1, ((v19 (())), (0, (0, (0, ())))))), (v26 ((v18 (a0, ())), ((v18 (a0, ())).1.getD 1 rZ).2.2.2.1, ())).2), 0, ()) else none))
 else
 (bif (decide (a2 = 133)) then
 (bif (!(v25 ((v18 (a0, ())).2.2.2.1, ((v18 (a0, ())).1.getD 1 rZ).2.2.2.1, ()))) then
 (bif ((k25 ((v18 (a0, ())).2.2.2.1, ((v18 (a0, ())).1.getD 1 rZ).2.2.2.1, ())) && ((k19 (())) && ((k18 (a0, ())) && ((tt 1 (k17 (a0, (a1, ((v16 (a2, ())).1, ()))) (()))) && (tt 1 (k16 (a2, ()))))))) then some (([], ([], (0, ([], (0, ()))))), 67, ()) else none)
 else
 (bif ((k26 ((v18 (a0, ())), ((v18 (a0, ())).1.getD 1 rZ).2.2.2.1, ())) && ((k25 ((v18 (a0, ())).2.2.2.1, ((v18 (a0, ())).1.getD 1 rZ).2.2.2.1, ())) && ((k19 (())) && ((k18 (a0, ())) && ((tt 1 (k17 (a0, (a1, ((v16 (a2, ())).1, ()))) (()))) && (tt 1 (k16 (a2, ())))))))) then some (((lset rZ (cutIn rZ (v26 ((v18 (a0, ())), ((v18 (a0, ())).1.getD 1 rZ).2.2.2.1, ())).1 1 (List.replicate 5 rZ)) 0 (1, ((v19 (())), (0, (0, (0, ())))))), (v26 ((v18 (a0, ())), ((v18 (a0, ())).1.getD 1 rZ).2.2.2.1, ())).2), 0, ()) else none))
 else
 (bif ((k19 (())) && ((k18 (a0, ())) && ((tt 1 (k17 (a0, (a1, ((v16 (a2, ())).1, ()))) (()))) && (tt 1 (k16 (a2, ())))))) then some (((lset rZ (cutIn rZ (v18 (a0, ())).1 1 (List.replicate 5 rZ)) 0 (1, ((v19 (())), (0, (0, (0, ())))))), (v18 (a0, ())).2), 0, ()) else none))))))))))))
theorem t9 (v16 : (Int × Unit) → (KDp27 × (Bool × Unit))) (k16 : (Int × Unit) → Bool) (v17 : (KDp21 × KDp28) → (Unit) → Int) (k17 : (KDp21 × KDp28) → (Unit) → Bool) (v18 : (KDp21 × Unit) → KDp21) (k18 : (KDp21 × Unit) → Bool) (v19 : (Unit) → KDp15) (k19 : (Unit) → Bool) (v20 : (Int × Unit) → KDp15) (k20 : (Int × Unit) → Bool) (v21 : (KDp15 × Int × Unit) → KDp15) (k21 : (KDp15 × Int × Unit) → Bool) (v22 : (KDp21 × Unit) → KDp21) (k22 : (KDp21 × Unit) → Bool) (v23 : Yd3 → KDp21) (k23 : Yd3 → Bool) (v24 : (KDp15 × Unit) → (Int × (Bool × Unit))) (k24 : (KDp15 × Unit) → Bool) (v25 : ((List Int) × Int × Unit) → Bool) (k25 : ((List Int) × Int × Unit) → Bool) (v26 : Yd3 → KDp21) (k26 : Yd3 → Bool) (a0 : KDp21) (a1 : (List (Int × KDp16))) (a2 : Int) : fnT (CxL Try.Θ (kOf [(16, sm [(.int .i64)] KTp24 v16 k16), (17, smR ODp0 [0] [] (.int .i64) v17 k17), (18, sm [KTp12] KTp12 v18 k18), (19, sm [] (.pair KTp1 KTp1) v19 k19), (20, sm [(.int .u64)] (.pair KTp1 KTp1) v20 k20), (21, sm [(.pair KTp1 KTp1), (.int .i64)] (.pair KTp1 KTp1) v21 k21), (22, sm [KTp12] KTp12 v22 k22), (23, smU [KTp12, (.int .i64)] KTp12 v23 k23), (24, sm [(.pair KTp1 KTp1)] KTp13 v24 k24), (25, sm [(.vsl (.int .i64)), (.int .i64)] .bool v25 k25), (26, sm [KTp12, (.int .i64)] KTp12 v26 k26)]) (lOf [])) Try.f9 (.tup KTp12 KTp14) [⟨KTp12, a0⟩, ⟨(.vsl KTp25), a1⟩, ⟨(.int .i64), a2⟩] = S9 v16 k16 v17 k17 v18 k18 v19 k19 v20 k20 v21 k21 v22 k22 v23 k23 v24 k24 v25 k25 v26 k26 a0 a1 a2 := by kernel_rfl
end Go.Proofs.Po.Pl
