import Derived.Test.YtfhpihomdnbgpaaT
import Derived.Test.YtfhpihomdnbgpaaA
import Derived.Test.YtfhpihomdnbgpaaGd
namespace Go.Proofs
open Go.GX
set_option linter.unusedVariables false
set_option maxRecDepth 100000
@[reducible] def KD0 : Type := ((Int × (Int × Unit)) × (Int × (Int × Unit)))
@[reducible] def KD1 : Type := (Int × (Int × (Int × Unit)))
@[reducible] def KD2 : Type := (List (Int × (KD0 × KD1)))
@[reducible] def KD3 : Type := ((Int × (KD0 × KD1)) × Unit)
@[reducible] def KD4 : Type := (List (Int × (Int × KD3)))
@[reducible] def KD5 : Type := ((List Int) × (Int × Unit))
@[reducible] def KD6 : Type := (KD2 × (KD4 × (Int × KD5)))
@[reducible] def KT7 : Ty := (.pair (.int .u64) .unit)
@[reducible] def KT8 : Ty := (.pair (.pair (.int .u64) KT7) (.pair (.int .u64) KT7))
@[reducible] def KT9 : Ty := (.pair (.int .i64) .unit)
@[reducible] def KT10 : Ty := (.pair (.int .i64) (.pair (.int .i64) KT9))
@[reducible] def KT11 : Ty := (.pair (.int .i64) (.pair KT8 KT10))
@[reducible] def KT12 : Ty := (.pair (.int .i64) (.pair KT11 .unit))
@[reducible] def KT13 : Ty := (.pair (.int .i64) KT12)
@[reducible] def KT14 : Ty := (.pair (.vsl (.int .i64)) KT9)
@[reducible] def KT15 : Ty := (.pair (.int .i64) KT14)
@[reducible] def KT16 : Ty := (.pair (.arr 64 KT13) KT15)
@[reducible] def KT17 : Ty := (.pair (.arr 11 KT11) KT16)
@[reducible] def KD18 : Type := ((Int × (Int × Unit)) × (Bool × Unit))
@[reducible] def KT19 : Ty := (.tup (.pair (.int .u64) KT7) (.tup .bool .tnil))
@[reducible] def KT20 : Ty := (.tup KT8 (.tup .bool .tnil))
@[reducible] def KT21 : Ty := (.pair (.int .i64) KT10)
@[reducible] def KD22 : Type := ((List Int) × ((List Int) × Unit))
@[reducible] def KT23 : Ty := (.pair (.vsl (.int .i64)) .unit)
@[reducible] def KT24 : Ty := (.pair (.vsl (.int .i64)) KT23)
@[reducible] def KT25 : Ty := (.tup KT24 (.tup .bool .tnil))
@[reducible] def KD26 : Type := ((List (Int × KD1)) × (KD22 × Unit))
@[reducible] def KD27 : Type := ((Int × KD1) × (Bool × Unit))
@[reducible] def KT28 : Ty := (.pair (.vsl KT21) (.pair KT24 .unit))
@[reducible] def OD0 : Dk := (.v (.pair KT17 KT28))
@[reducible] def KT29 : Ty := (.tup KT21 (.tup .bool .tnil))
@[reducible] def KT30 : Ty := (.tup (.int .u64) (.tup .bool .tnil))
@[reducible] def KT31 : Ty := (.tup (.int .i64) .tnil)
@[reducible] def rZ : Int × (((Int × (Int × Unit)) × (Int × (Int × Unit))) × (Int × (Int × (Int × Unit)))) := (0, (((0, (0, ())), (0, (0, ()))), (0, (0, (0, ())))))
@[reducible] def sZ : Int × (Int × ((Int × (((Int × (Int × Unit)) × (Int × (Int × Unit))) × (Int × (Int × (Int × Unit))))) × Unit)) := (0, (0, ((0, (((0, (0, ())), (0, (0, ()))), (0, (0, (0, ()))))), ())))
@[reducible] def Ya0 : Type := (Int × (Int × Unit))
@[reducible] def Ya1 : Type := (Unit × Int × KD6 × Unit)
@[reducible] def Ya2 : Type := (Unit × (List Int) × Int × Int × (KD6 × KD26) × Unit)
@[reducible] def Ya3 : Type := (Int × (KD0 × KD1))
@[reducible] def Ya4 : Type := ((Unit × KD6 × Unit) ⊕ (Bool × Unit))
@[reducible] def Ya5 : Type := (Int × Int × Unit)
@[reducible] def Ya6 : Type := (KD6 × (List (Int × KD1)) × Ya3 × Int × Unit)
@[reducible] def Ya7 : Type := (Int × Int × Unit × Unit × Unit × Int × KD6 × KD6 × Int × Unit)
@[reducible] def Ya8 : Type := ((Int × KD1) × Unit)
@[reducible] def Ya9 : Type := (Unit × Int × Int × KD6 × Unit)
@[reducible] def Ya10 : Type := (Bool × Unit × Unit × Int × Int × Int × KD6 × Int × Unit)
@[reducible] def Ya11 : Type := (Bool × Int × Unit)
@[reducible] def Ya12 : Type := (Unit × Unit × Bool × Int × KD0 × KD0 × Unit)
@[reducible] def Ya13 : Type := (Unit × KD6 × Unit)
@[reducible] def Ya14 : Type := (List (Int × KD1))
@[reducible] def Ya15 : Type := (Unit × Unit × Int × KD0 × KD0 × Unit)
@[reducible] def Ya16 : Type := (KD6 × Int × Unit)
@[reducible] def Ya17 : Type := (Int × Unit × Int × Int × Ya0 × Unit)
@[reducible] def Ya18 : Type := ((Unit × Int × Unit) ⊕ ((Unit × Int × Unit) ⊕ (Unit × Int × Unit)))
@[reducible] def Ya19 : Type := ((List Int) × Int × Int × Int × Unit)
@[reducible] def Ya20 : Type := ((Unit × Unit × KD0 × KD0 × Unit) ⊕ (Unit × Bool × KD0 × Unit))
@[reducible] def Ya21 : Type := ((List Int) × Int × Unit)
@[reducible] def Ya22 : Type := (KD0 × Int × Unit)
@[reducible] def Ya23 : Type := (Unit × (List Int) × (KD6 × KD26) × Unit)
@[reducible] def Ya24 : Type := (Ya0 × Ya0 × Unit)
@[reducible] def Ya25 : Type := ((Unit) ⊕ (Int × Unit))
@[reducible] def Ya26 : Type := (Unit × Unit × Unit × KD6 × KD6 × Int × Unit)
@[reducible] def Ya27 : Type := (Unit × Unit × Bool × KD0 × KD0 × Unit)
@[reducible] def Ya28 : Type := (Ya1 ⊕ (Bool × Unit))
@[reducible] def Ya29 : Type := (KD6 × Ya14 × Ya3 × Int × Bool × Unit)
@[reducible] def Ya30 : Type := (Ya14 × Int × Unit)
@[reducible] def Ya31 : Type := (Int × Unit × Int × Ya0 × Unit)
@[reducible] def Ya32 : Type := (Int × (Bool × Unit))
@[reducible] def Ya33 : Type := ((List Int) × (List Int) × Unit)
@[reducible] def Ya34 : Type := (KD22 × (Bool × Unit))
@[reducible] def Ya35 : Type := (KD0 × (Bool × Unit))
noncomputable def S62  (a0 : Ya0) : Option Bool :=
 some (decide ((iand .u64 a0.1 a0.2.1) = 0))
theorem t62  (a0 : Ya0) : fnT (CxL Try.Θ (kOf []) (lOf [])) Try.f62 .bool [⟨(.pair (.int .u64) KT7), a0⟩] = S62  a0 := by kernel_rfl
def hd64_0 : List It := [.sl 0 (.int .u64), .pt 4 ⟨0, [0]⟩, .sl 5 (.int .u64), .sl 6 (.int .u64), .bl 0 (.pair (.int .u64) KT7)]
def ys64_0 : Ways := [((.exit 0), [.sl 0 (.int .u64), .pt 4 ⟨0, [0]⟩, .sl 6 (.int .u64), .bl 0 (.pair (.int .u64) KT7)])]
noncomputable def R64_0 (lv0 : Ya17 → Ya31) (lk0 : Ya17 → Bool) (x0 : Int) (x1 : Unit) (x2 : Int) (x3 : Int) (x4 : Ya0) : Option (Ya17 ⊕ Ya31) :=
 (bif (!(decide (x2 = 0))) then some (.inl (x0, (), (ishr .u64 x2 1), (ior .u64 (ishl .u64 x3 1) 1), x4, ())) else some (.inr (x0, (), x3, x4, ())))
theorem r64_0 (lv0 : Ya17 → Ya31) (lk0 : Ya17 → Bool) (x0 : Int) (x1 : Unit) (x2 : Int) (x3 : Int) (x4 : Ya0) : codeT (CxL Try.Θ (kOf []) (lOf [(0, orc 22 25 0 hd64_0 ys64_0 lv0 lk0)])) (loopB 0 (bodyF Try.f64)) (mkS 22 25 hd64_0 (x0, x1, x2, x3, x4, ())) (leafR 22 hd64_0 ys64_0) = R64_0 lv0 lk0 x0 x1 x2 x3 x4 := by kernel_rfl
noncomputable def S64 (lv0 : Ya17 → Ya31) (lk0 : Ya17 → Bool) (a0 : Int) (a1 : Int) : Option Ya0 :=
 (bif (tt 1 (lk0 (a0, (), (ixor .u64 a0 a1), 0, (0, (0, ())), ()))) then some ((iandn .u64 (lv0 (a0, (), (ixor .u64 a0 a1), 0, (0, (0, ())), ())).1 (lv0 (a0, (), (ixor .u64 a0 a1), 0, (0, (0, ())), ())).2.2.1), ((lv0 (a0, (), (ixor .u64 a0 a1), 0, (0, (0, ())), ())).2.2.1, ())) else none)
theorem t64 (lv0 : Ya17 → Ya31) (lk0 : Ya17 → Bool) (a0 : Int) (a1 : Int) : fnT (CxL Try.Θ (kOf []) (lOf [(0, orc 22 25 0 hd64_0 ys64_0 lv0 lk0)])) Try.f64 (.pair (.int .u64) KT7) [⟨(.int .u64), a0⟩, ⟨(.int .u64), a1⟩] = S64 lv0 lk0 a0 a1 := by kernel_rfl
noncomputable def S63  (a0 : Ya0) (a1 : Ya0) : Option KD18 :=
 (bif (!(decide ((iandn .u64 (iandn .u64 (ixor .u64 a0.1 a1.1) a0.2.1) a1.2.1) = 0))) then
 some ((0, (0, ())), false, ())
 else
 some (((iandn .u64 (ior .u64 a0.1 a1.1) (iand .u64 a0.2.1 a1.2.1)), ((iand .u64 a0.2.1 a1.2.1), ())), true, ()))
theorem t63  (a0 : Ya0) (a1 : Ya0) : fnT (CxL Try.Θ (kOf []) (lOf [])) Try.f63 KT19 [⟨(.pair (.int .u64) KT7), a0⟩, ⟨(.pair (.int .u64) KT7), a1⟩] = S63  a0 a1 := by kernel_rfl
def hd49_0 : List It := [.pt 1 ⟨0, [0]⟩, .pt 2 ⟨1, [0]⟩, .sl 4 (.int .i64), .bl 0 KT8, .bl 1 KT8]
def ys49_0 : Ways := [((.exit 0), [.pt 1 ⟨0, [0]⟩, .pt 2 ⟨1, [0]⟩, .bl 0 KT8, .bl 1 KT8]), (.ret, [.pt 2 ⟨1, [0]⟩, .sl 3 .bool, .bl 1 KT8])]
noncomputable def R49_0 (v62 : (Ya0 × Unit) → Bool) (k62 : (Ya0 × Unit) → Bool) (v63 : Ya24 → KD18) (k63 : Ya24 → Bool) (v64 : Ya5 → Ya0) (k64 : Ya5 → Bool) (lv0 : Ya15 → Ya20) (lk0 : Ya15 → Bool) (x0 : Unit) (x1 : Unit) (x2 : Int) (x3 : KD0) (x4 : KD0) : Option (Ya15 ⊕ Ya20) :=
 (bif (decide (x2 < 3)) then
 (bif (decide ((if x3.1.1 > x3.2.1 then x3.1.1 else x3.2.1) > (if (ior .u64 x3.1.1 x3.1.2.1) < x3.2.2.1 then (ior .u64 x3.1.1 x3.1.2.1) else x3.2.2.1))) then
 some (.inr (.inr ((), false, ((0, (0, ())), (0, (0, ()))), ())))
 else
 (bif (!(v63 (x3.1, (v64 ((if x3.1.1 > x3.2.1 then x3.1.1 else x3.2.1), (if (ior .u64 x3.1.1 x3.1.2.1) < x3.2.2.1 then (ior .u64 x3.1.1 x3.1.2.1) else x3.2.2.1), ())), ())).2.1) then
 (bif (tt 2 ((k63 (x3.1, (v64 ((if x3.1.1 > x3.2.1 then x3.1.1 else x3.2.1), (if (ior .u64 x3.1.1 x3.1.2.1) < x3.2.2.1 then (ior .u64 x3.1.1 x3.1.2.1) else x3.2.2.1), ())), ())) && (tt 1 (k64 ((if x3.1.1 > x3.2.1 then x3.1.1 else x3.2.1), (if (ior .u64 x3.1.1 x3.1.2.1) < x3.2.2.1 then (ior .u64 x3.1.1 x3.1.2.1) else x3.2.2.1), ()))))) then some (.inr (.inr ((), false, ((0, (0, ())), (0, (0, ()))), ()))) else none)
 else
 (bif (tt 2 ((k63 (x3.1, (v64 ((if x3.1.1 > x3.2.1 then x3.1.1 else x3.2.1), (if (ior .u64 x3.1.1 x3.1.2.1) < x3.2.2.1 then (ior .u64 x3.1.1 x3.1.2.1) else x3.2.2.1), ())), ())) && (tt 1 (k64 ((if x3.1.1 > x3.2.1 then x3.1.1 else x3.2.1), (if (ior .u64 x3.1.1 x3.1.2.1) < x3.2.2.1 then (ior .u64 x3.1.1 x3.1.2.1) else x3.2.2.1), ()))))) then some (.inl ((), (), (IntKind.wrap .i64 (x2 + 1)), ((v63 (x3.1, (v64 ((if x3.1.1 > x3.2.1 then x3.1.1 else x3.2.1), (if (ior .u64 x3.1.1 x3.1.2.1) < x3.2.2.1 then (ior .u64 x3.1.1 x3.1.2.1) else x3.2.2.1), ())), ())).1, ((if x3.1.1 > x3.2.1 then x3.1.1 else x3.2.1), ((if (ior .u64 x3.1.1 x3.1.2.1) < x3.2.2.1 then (ior .u64 x3.1.1 x3.1.2.1) else x3.2.2.1), x3.2.2.2))), x4, ())) else none)))
 else
 some (.inr (.inl ((), (), x3, x4, ()))))
theorem r49_0 (v62 : (Ya0 × Unit) → Bool) (k62 : (Ya0 × Unit) → Bool) (v63 : Ya24 → KD18) (k63 : Ya24 → Bool) (v64 : Ya5 → Ya0) (k64 : Ya5 → Bool) (lv0 : Ya15 → Ya20) (lk0 : Ya15 → Bool) (x0 : Unit) (x1 : Unit) (x2 : Int) (x3 : KD0) (x4 : KD0) : codeT (CxL Try.Θ (kOf [(62, sm [(.pair (.int .u64) KT7)] .bool v62 k62), (63, sm [(.pair (.int .u64) KT7), (.pair (.int .u64) KT7)] KT19 v63 k63), (64, sm [(.int .u64), (.int .u64)] (.pair (.int .u64) KT7) v64 k64)]) (lOf [(0, orc 57 26 0 hd49_0 ys49_0 lv0 lk0)])) (loopB 0 (bodyF Try.f49)) (mkS 57 26 hd49_0 (x0, x1, x2, x3, x4, ())) (leafR 57 hd49_0 ys49_0) = R49_0 v62 k62 v63 k63 v64 k64 lv0 lk0 x0 x1 x2 x3 x4 := by kernel_rfl
noncomputable def S49 (v62 : (Ya0 × Unit) → Bool) (k62 : (Ya0 × Unit) → Bool) (v63 : Ya24 → KD18) (k63 : Ya24 → Bool) (v64 : Ya5 → Ya0) (k64 : Ya5 → Bool) (lv0 : Ya15 → Ya20) (lk0 : Ya15 → Bool) (a0 : KD0) : Option Ya35 :=
 (bif (!(v62 (a0.1, ()))) then
 (bif (tt 1 (k62 (a0.1, ()))) then some (((0, (0, ())), (0, (0, ()))), false, ()) else none)
 else
 (bif (isL (lv0 ((), (), 0, a0, ((0, (0, ())), (0, (0, ()))), ()))) then
 (bif ((lk0 ((), (), 0, a0, ((0, (0, ())), (0, (0, ()))), ())) && (tt 2 (k62 (a0.1, ())))) then some ((getL (((), (), ((0, (0, ())), (0, (0, ()))), ((0, (0, ())), (0, (0, ()))), ()) : (Unit × Unit × KD0 × KD0 × Unit)) (lv0 ((), (), 0, a0, ((0, (0, ())), (0, (0, ()))), ()))).2.2.1, true, ()) else none)
 else
 (bif ((lk0 ((), (), 0, a0, ((0, (0, ())), (0, (0, ()))), ())) && (tt 2 (k62 (a0.1, ())))) then some ((getR (((), false, ((0, (0, ())), (0, (0, ()))), ()) : (Unit × Bool × KD0 × Unit)) (lv0 ((), (), 0, a0, ((0, (0, ())), (0, (0, ()))), ()))).2.2.1, (getR (((), false, ((0, (0, ())), (0, (0, ()))), ()) : (Unit × Bool × KD0 × Unit)) (lv0 ((), (), 0, a0, ((0, (0, ())), (0, (0, ()))), ()))).2.1, ()) else none)))
theorem t49 (v62 : (Ya0 × Unit) → Bool) (k62 : (Ya0 × Unit) → Bool) (v63 : Ya24 → KD18) (k63 : Ya24 → Bool) (v64 : Ya5 → Ya0) (k64 : Ya5 → Bool) (lv0 : Ya15 → Ya20) (lk0 : Ya15 → Bool) (a0 : KD0) : fnT (CxL Try.Θ (kOf [(62, sm [(.pair (.int .u64) KT7)] .bool v62 k62), (63, sm [(.pair (.int .u64) KT7), (.pair (.int .u64) KT7)] KT19 v63 k63), (64, sm [(.int .u64), (.int .u64)] (.pair (.int .u64) KT7) v64 k64)]) (lOf [(0, orc 57 26 0 hd49_0 ys49_0 lv0 lk0)])) Try.f49 KT20 [⟨KT8, a0⟩] = S49 v62 k62 v63 k63 v64 k64 lv0 lk0 a0 := by kernel_rfl
noncomputable def S27 (v49 : (KD0 × Unit) → Ya35) (k49 : (KD0 × Unit) → Bool) (a0 : KD0) : Option Bool :=
 (bif (v49 (a0, ())).2.1 then
 (bif (tt 1 (k49 (a0, ()))) then some (((decide ((v49 (a0, ())).1.1.1 = a0.1.1)) && (tt 1 (decide ((v49 (a0, ())).1.1.2.1 = a0.1.2.1)))) && ((decide ((v49 (a0, ())).1.2.1 = a0.2.1)) && (tt 1 (decide ((v49 (a0, ())).1.2.2.1 = a0.2.2.1))))) else none)
 else
 (bif (tt 1 (k49 (a0, ()))) then some false else none))
theorem t27 (v49 : (KD0 × Unit) → Ya35) (k49 : (KD0 × Unit) → Bool) (a0 : KD0) : fnT (CxL Try.Θ (kOf [(49, sm [KT8] KT20 v49 k49)]) (lOf [])) Try.f27 .bool [⟨KT8, a0⟩] = S27 v49 k49 a0 := by kernel_rfl
noncomputable def S12 (v27 : (KD0 × Unit) → Bool) (k27 : (KD0 × Unit) → Bool) (a0 : Ya3) : Option Bool :=
 (bif ((decide (a0.1 = 0)) && ((((decide (a0.2.1.1.1 = 0)) && (tt 1 (decide (a0.2.1.1.2.1 = 0)))) && ((decide (a0.2.1.2.1 = 0)) && (tt 1 (decide (a0.2.1.2.2.1 = 0))))) && ((decide (a0.2.2.1 = 0)) && ((decide (a0.2.2.2.1 = 0)) && (tt 1 (decide (a0.2.2.2.2.1 = 0))))))) then
 some true
 else
 (bif (decide (a0.1 ≥ 1)) then
 (bif (decide (a0.1 ≤ 10)) then
 (bif (v27 (a0.2.1, ())) then
 (bif (decide (a0.2.2.1 ≥ 0)) then
 (bif (decide (a0.2.2.1 ≤ 1048576)) then
 (bif (decide (a0.2.2.2.1 ≥ 0)) then
 (bif (decide (a0.2.2.2.1 ≤ 1099511627776)) then
 (bif (decide (a0.2.2.2.2.1 ≥ 0)) then
 (bif (tt 1 (k27 (a0.2.1, ()))) then some (decide (a0.2.2.2.2.1 ≤ 4096)) else none)
 else
 (bif (tt 1 (k27 (a0.2.1, ()))) then some false else none))
 else
 (bif (tt 1 (k27 (a0.2.1, ()))) then some false else none))
 else
 (bif (tt 1 (k27 (a0.2.1, ()))) then some false else none))
 else
 (bif (tt 1 (k27 (a0.2.1, ()))) then some false else none))
 else
 (bif (tt 1 (k27 (a0.2.1, ()))) then some false else none))
 else
 (bif (tt 1 (k27 (a0.2.1, ()))) then some false else none))
 else
 some false)
 else
 some false))
theorem t12 (v27 : (KD0 × Unit) → Bool) (k27 : (KD0 × Unit) → Bool) (a0 : Ya3) : fnT (CxL Try.Θ (kOf [(27, sm [KT8] .bool v27 k27)]) (lOf [])) Try.f12 .bool [⟨KT11, a0⟩] = S12 v27 k27 a0 := by kernel_rfl
def hd6_0 : List It := [.pt 1 ⟨0, [0]⟩, .sl 3 (.int .i64), .bl 0 KT17]
def ys6_0 : Ways := [((.exit 0), [.pt 1 ⟨0, [0]⟩, .bl 0 KT17]), (.ret, [.sl 2 .bool])]
def hd6_2 : List It := [.pt 1 ⟨0, [0]⟩, .sl 4 (.int .i64), .bl 0 KT17]
def ys6_2 : Ways := [((.exit 2), [.pt 1 ⟨0, [0]⟩, .bl 0 KT17]), (.ret, [.sl 2 .bool])]
def hd6_6 : List It := [.pt 1 ⟨0, [0]⟩, .sl 6 (.int .i64), .sl 7 (.int .i64), .bl 0 KT17]
def ys6_6 : Ways := [((.exit 6), [.pt 1 ⟨0, [0]⟩, .sl 6 (.int .i64), .bl 0 KT17]), (.ret, [.sl 2 .bool])]
def hd6_4 : List It := [.pt 1 ⟨0, [0]⟩, .sl 6 (.int .i64), .bl 0 KT17]
def ys6_4 : Ways := [((.exit 4), [.pt 1 ⟨0, [0]⟩, .bl 0 KT17]), (.ret, [.sl 2 .bool])]
noncomputable def R6_0 (v12 : (Ya3 × Unit) → Bool) (k12 : (Ya3 × Unit) → Bool) (lv0 : Ya1 → Ya4) (lk0 : Ya1 → Bool) (lv2 : Ya1 → Ya4) (lk2 : Ya1 → Bool) (lv6 : Ya9 → Ya28) (lk6 : Ya9 → Bool) (lv4 : Ya1 → Ya4) (lk4 : Ya1 → Bool) (x0 : Unit) (x1 : Int) (x2 : KD6) : Option (Ya1 ⊕ Ya4) :=
 (bif (decide (x1 < 11)) then
 (bif (!(v12 ((x2.1.getD (Int.toNat x1) rZ), ()))) then
 (bif (tt 1 ((k12 ((x2.1.getD (Int.toNat x1) rZ), ())) && ((tt 1 (decide (((Int.toNat x1) : Nat) < 11))) && (tt 1 ((decide (0 ≤ x1)) && (decide (x1 < 11))))))) then some (.inr (.inr (false, ()))) else none)
 else
 (bif (tt 1 ((k12 ((x2.1.getD (Int.toNat x1) rZ), ())) && ((tt 1 (decide (((Int.toNat x1) : Nat) < 11))) && (tt 1 ((decide (0 ≤ x1)) && (decide (x1 < 11))))))) then some (.inl ((), (IntKind.wrap .i64 (x1 + 1)), x2, ())) else none))
 else
 some (.inr (.inl ((), x2, ()))))
theorem r6_0 (v12 : (Ya3 × Unit) → Bool) (k12 : (Ya3 × Unit) → Bool) (lv0 : Ya1 → Ya4) (lk0 : Ya1 → Bool) (lv2 : Ya1 → Ya4) (lk2 : Ya1 → Bool) (lv6 : Ya9 → Ya28) (lk6 : Ya9 → Bool) (lv4 : Ya1 → Ya4) (lk4 : Ya1 → Bool) (x0 : Unit) (x1 : Int) (x2 : KD6) : codeT (CxL Try.Θ (kOf [(12, sm [KT11] .bool v12 k12)]) (lOf [(0, orc 142 25 0 hd6_0 ys6_0 lv0 lk0), (2, orc 142 49 2 hd6_2 ys6_2 lv2 lk2), (6, orc 142 97 6 hd6_6 ys6_6 lv6 lk6), (4, orc 142 73 4 hd6_4 ys6_4 lv4 lk4)])) (loopB 0 (bodyF Try.f6)) (mkS 142 25 hd6_0 (x0, x1, x2, ())) (leafR 142 hd6_0 ys6_0) = R6_0 v12 k12 lv0 lk0 lv2 lk2 lv6 lk6 lv4 lk4 x0 x1 x2 := by kernel_rfl
noncomputable def R6_2 (v12 : (Ya3 × Unit) → Bool) (k12 : (Ya3 × Unit) → Bool) (lv0 : Ya1 → Ya4) (lk0 : Ya1 → Bool) (lv2 : Ya1 → Ya4) (lk2 : Ya1 → Bool) (lv6 : Ya9 → Ya28) (lk6 : Ya9 → Bool) (lv4 : Ya1 → Ya4) (lk4 : Ya1 → Bool) (x0 : Unit) (x1 : Int) (x2 : KD6) : Option (Ya1 ⊕ Ya4) :=
 (bif (decide (x1 < 64)) then
 (bif (decide ((x2.2.1.getD (Int.toNat x1) sZ).1 < 0)) then
 (bif (tt 1 ((tt 1 (decide (((Int.toNat x1) : Nat) < 64))) && (tt 1 ((decide (0 ≤ x1)) && (decide (x1 < 64)))))) then some (.inr (.inr (false, ()))) else none)
 else
 (bif (decide ((x2.2.1.getD (Int.toNat x1) sZ).1 > 2)) then
 (bif (tt 1 ((tt 1 (decide (((Int.toNat x1) : Nat) < 64))) && (tt 1 ((decide (0 ≤ x1)) && (decide (x1 < 64)))))) then some (.inr (.inr (false, ()))) else none)
 else
 (bif (decide ((x2.2.1.getD (Int.toNat x1) sZ).2.1 < 0)) then
 (bif (tt 1 ((tt 1 (decide (((Int.toNat x1) : Nat) < 64))) && (tt 1 ((decide (0 ≤ x1)) && (decide (x1 < 64)))))) then some (.inr (.inr (false, ()))) else none)
 else
 (bif (decide ((x2.2.1.getD (Int.toNat x1) sZ).2.1 > 255)) then
 (bif (tt 1 ((tt 1 (decide (((Int.toNat x1) : Nat) < 64))) && (tt 1 ((decide (0 ≤ x1)) && (decide (x1 < 64)))))) then some (.inr (.inr (false, ()))) else none)
 else
 (bif (!(v12 ((x2.2.1.getD (Int.toNat x1) sZ).2.2.1, ()))) then
 (bif (tt 1 ((k12 ((x2.2.1.getD (Int.toNat x1) sZ).2.2.1, ())) && ((tt 1 (decide (((Int.toNat x1) : Nat) < 64))) && (tt 1 ((decide (0 ≤ x1)) && (decide (x1 < 64))))))) then some (.inr (.inr (false, ()))) else none)
 else
 (bif (decide ((x2.2.1.getD (Int.toNat x1) sZ).1 = 2)) then
 (bif (decide ((x2.2.1.getD (Int.toNat x1) sZ).2.2.1.1 = 0)) then
 (bif (tt 1 ((k12 ((x2.2.1.getD (Int.toNat x1) sZ).2.2.1, ())) && ((tt 1 (decide (((Int.toNat x1) : Nat) < 64))) && (tt 1 ((decide (0 ≤ x1)) && (decide (x1 < 64))))))) then some (.inr (.inr (false, ()))) else none)
 else
 (bif (!(decide ((x2.2.1.getD (Int.toNat x1) sZ).2.1 = 0))) then
 (bif (tt 1 ((k12 ((x2.2.1.getD (Int.toNat x1) sZ).2.2.1, ())) && ((tt 1 (decide (((Int.toNat x1) : Nat) < 64))) && (tt 1 ((decide (0 ≤ x1)) && (decide (x1 < 64))))))) then some (.inr (.inr (false, ()))) else none)
 else
 (bif (!(decide ((x2.2.1.getD (Int.toNat x1) sZ).1 = 2))) then
 (bif (!((decide ((x2.2.1.getD (Int.toNat x1) sZ).2.2.1.1 = 0)) && ((((decide ((x2.2.1.getD (Int.toNat x1) sZ).2.2.1.2.1.1.1 = 0)) && (tt 1 (decide ((x2.2.1.getD (Int.toNat x1) sZ).2.2.1.2.1.1.2.1 = 0)))) && ((decide ((x2.2.1.getD (Int.toNat x1) sZ).2.2.1.2.1.2.1 = 0)) && (tt 1 (decide ((x2.2.1.getD (Int.toNat x1) sZ).2.2.1.2.1.2.2.1 = 0))))) && ((decide ((x2.2.1.getD (Int.toNat x1) sZ).2.2.1.2.2.1 = 0)) && ((decide ((x2.2.1.getD (Int.toNat x1) sZ).2.2.1.2.2.2.1 = 0)) && (tt 1 (decide ((x2.2.1.getD (Int.toNat x1) sZ).2.2.1.2.2.2.2.1 = 0)))))))) then
 (bif (tt 1 ((k12 ((x2.2.1.getD (Int.toNat x1) sZ).2.2.1, ())) && ((tt 1 (decide (((Int.toNat x1) : Nat) < 64))) && (tt 1 ((decide (0 ≤ x1)) && (decide (x1 < 64))))))) then some (.inr (.inr (false, ()))) else none)
 else
 (bif (decide ((x2.2.1.getD (Int.toNat x1) sZ).1 = 0)) then
 (bif (!(decide ((x2.2.1.getD (Int.toNat x1) sZ).2.1 = 0))) then
 (bif (tt 1 ((k12 ((x2.2.1.getD (Int.toNat x1) sZ).2.2.1, ())) && ((tt 1 (decide (((Int.toNat x1) : Nat) < 64))) && (tt 1 ((decide (0 ≤ x1)) && (decide (x1 < 64))))))) then some (.inr (.inr (false, ()))) else none)
 else
 (bif (tt 1 ((k12 ((x2.2.1.getD (Int.toNat x1) sZ).2.2.1, ())) && ((tt 1 (decide (((Int.toNat x1) : Nat) < 64))) && (tt 1 ((decide (0 ≤ x1)) && (decide (x1 < 64))))))) then some (.inl ((), (IntKind.wrap .i64 (x1 + 1)), x2, ())) else none))
 else
 (bif (tt 1 ((k12 ((x2.2.1.getD (Int.toNat x1) sZ).2.2.1, ())) && ((tt 1 (decide (((Int.toNat x1) : Nat) < 64))) && (tt 1 ((decide (0 ≤ x1)) && (decide (x1 < 64))))))) then some (.inl ((), (IntKind.wrap .i64 (x1 + 1)), x2, ())) else none)))
 else
 (bif (decide ((x2.2.1.getD (Int.toNat x1) sZ).1 = 0)) then
 (bif (!(decide ((x2.2.1.getD (Int.toNat x1) sZ).2.1 = 0))) then
 (bif (tt 1 ((k12 ((x2.2.1.getD (Int.toNat x1) sZ).2.2.1, ())) && ((tt 1 (decide (((Int.toNat x1) : Nat) < 64))) && (tt 1 ((decide (0 ≤ x1)) && (decide (x1 < 64))))))) then some (.inr (.inr (false, ()))) else none)
 else
 (bif (tt 1 ((k12 ((x2.2.1.getD (Int.toNat x1) sZ).2.2.1, ())) && ((tt 1 (decide (((Int.toNat x1) : Nat) < 64))) && (tt 1 ((decide (0 ≤ x1)) && (decide (x1 < 64))))))) then some (.inl ((), (IntKind.wrap .i64 (x1 + 1)), x2, ())) else none))
 else
 (bif (tt 1 ((k12 ((x2.2.1.getD (Int.toNat x1) sZ).2.2.1, ())) && ((tt 1 (decide (((Int.toNat x1) : Nat) < 64))) && (tt 1 ((decide (0 ≤ x1)) && (decide (x1 < 64))))))) then some (.inl ((), (IntKind.wrap .i64 (x1 + 1)), x2, ())) else none)))))
 else
 (bif (!(decide ((x2.2.1.getD (Int.toNat x1) sZ).1 = 2))) then
 (bif (!((decide ((x2.2.1.getD (Int.toNat x1) sZ).2.2.1.1 = 0)) && ((((decide ((x2.2.1.getD (Int.toNat x1) sZ).2.2.1.2.1.1.1 = 0)) && (tt 1 (decide ((x2.2.1.getD (Int.toNat x1) sZ).2.2.1.2.1.1.2.1 = 0)))) && ((decide ((x2.2.1.getD (Int.toNat x1) sZ).2.2.1.2.1.2.1 = 0)) && (tt 1 (decide ((x2.2.1.getD (Int.toNat x1) sZ).2.2.1.2.1.2.2.1 = 0))))) && ((decide ((x2.2.1.getD (Int.toNat x1) sZ).2.2.1.2.2.1 = 0)) && ((decide ((x2.2.1.getD (Int.toNat x1) sZ).2.2.1.2.2.2.1 = 0)) && (tt 1 (decide ((x2.2.1.getD (Int.toNat x1) sZ).2.2.1.2.2.2.2.1 = 0)))))))) then
 (bif (tt 1 ((k12 ((x2.2.1.getD (Int.toNat x1) sZ).2.2.1, ())) && ((tt 1 (decide (((Int.toNat x1) : Nat) < 64))) && (tt 1 ((decide (0 ≤ x1)) && (decide (x1 < 64))))))) then some (.inr (.inr (false, ()))) else none)
 else
 (bif (decide ((x2.2.1.getD (Int.toNat x1) sZ).1 = 0)) then
 (bif (!(decide ((x2.2.1.getD (Int.toNat x1) sZ).2.1 = 0))) then
 (bif (tt 1 ((k12 ((x2.2.1.getD (Int.toNat x1) sZ).2.2.1, ())) && ((tt 1 (decide (((Int.toNat x1) : Nat) < 64))) && (tt 1 ((decide (0 ≤ x1)) && (decide (x1 < 64))))))) then some (.inr (.inr (false, ()))) else none)
 else
 (bif (tt 1 ((k12 ((x2.2.1.getD (Int.toNat x1) sZ).2.2.1, ())) && ((tt 1 (decide (((Int.toNat x1) : Nat) < 64))) && (tt 1 ((decide (0 ≤ x1)) && (decide (x1 < 64))))))) then some (.inl ((), (IntKind.wrap .i64 (x1 + 1)), x2, ())) else none))
 else
 (bif (tt 1 ((k12 ((x2.2.1.getD (Int.toNat x1) sZ).2.2.1, ())) && ((tt 1 (decide (((Int.toNat x1) : Nat) < 64))) && (tt 1 ((decide (0 ≤ x1)) && (decide (x1 < 64))))))) then some (.inl ((), (IntKind.wrap .i64 (x1 + 1)), x2, ())) else none)))
 else
 (bif (decide ((x2.2.1.getD (Int.toNat x1) sZ).1 = 0)) then
 (bif (!(decide ((x2.2.1.getD (Int.toNat x1) sZ).2.1 = 0))) then
 (bif (tt 1 ((k12 ((x2.2.1.getD (Int.toNat x1) sZ).2.2.1, ())) && ((tt 1 (decide (((Int.toNat x1) : Nat) < 64))) && (tt 1 ((decide (0 ≤ x1)) && (decide (x1 < 64))))))) then some (.inr (.inr (false, ()))) else none)
 else
 (bif (tt 1 ((k12 ((x2.2.1.getD (Int.toNat x1) sZ).2.2.1, ())) && ((tt 1 (decide (((Int.toNat x1) : Nat) < 64))) && (tt 1 ((decide (0 ≤ x1)) && (decide (x1 < 64))))))) then some (.inl ((), (IntKind.wrap .i64 (x1 + 1)), x2, ())) else none))
 else
 (bif (tt 1 ((k12 ((x2.2.1.getD (Int.toNat x1) sZ).2.2.1, ())) && ((tt 1 (decide (((Int.toNat x1) : Nat) < 64))) && (tt 1 ((decide (0 ≤ x1)) && (decide (x1 < 64))))))) then some (.inl ((), (IntKind.wrap .i64 (x1 + 1)), x2, ())) else none)))))))))
 else
 some (.inr (.inl ((), x2, ()))))
theorem r6_2 (v12 : (Ya3 × Unit) → Bool) (k12 : (Ya3 × Unit) → Bool) (lv0 : Ya1 → Ya4) (lk0 : Ya1 → Bool) (lv2 : Ya1 → Ya4) (lk2 : Ya1 → Bool) (lv6 : Ya9 → Ya28) (lk6 : Ya9 → Bool) (lv4 : Ya1 → Ya4) (lk4 : Ya1 → Bool) (x0 : Unit) (x1 : Int) (x2 : KD6) : codeT (CxL Try.Θ (kOf [(12, sm [KT11] .bool v12 k12)]) (lOf [(0, orc 142 25 0 hd6_0 ys6_0 lv0 lk0), (2, orc 142 49 2 hd6_2 ys6_2 lv2 lk2), (6, orc 142 97 6 hd6_6 ys6_6 lv6 lk6), (4, orc 142 73 4 hd6_4 ys6_4 lv4 lk4)])) (loopB 2 (bodyF Try.f6)) (mkS 142 49 hd6_2 (x0, x1, x2, ())) (leafR 142 hd6_2 ys6_2) = R6_2 v12 k12 lv0 lk0 lv2 lk2 lv6 lk6 lv4 lk4 x0 x1 x2 := by kernel_rfl
noncomputable def R6_6 (v12 : (Ya3 × Unit) → Bool) (k12 : (Ya3 × Unit) → Bool) (lv0 : Ya1 → Ya4) (lk0 : Ya1 → Bool) (lv2 : Ya1 → Ya4) (lk2 : Ya1 → Bool) (lv6 : Ya9 → Ya28) (lk6 : Ya9 → Bool) (lv4 : Ya1 → Ya4) (lk4 : Ya1 → Bool) (x0 : Unit) (x1 : Int) (x2 : Int) (x3 : KD6) : Option (Ya9 ⊕ Ya28) :=
 (bif (decide (x2 < x1)) then
 (bif (decide ((x3.2.2.2.1.getD (Int.toNat x2) 0) = (x3.2.2.2.1.getD (Int.toNat x1) 0))) then
 (bif (tt 2 (((decide (0 ≤ x1)) && (decide (x1 < ((x3.2.2.2.1.length : Nat) : Int)))) && (tt 1 ((decide (0 ≤ x2)) && (decide (x2 < ((x3.2.2.2.1.length : Nat) : Int))))))) then some (.inr (.inr (false, ()))) else none)
 else
 (bif (tt 2 (((decide (0 ≤ x1)) && (decide (x1 < ((x3.2.2.2.1.length : Nat) : Int)))) && (tt 1 ((decide (0 ≤ x2)) && (decide (x2 < ((x3.2.2.2.1.length : Nat) : Int))))))) then some (.inl ((), x1, (IntKind.wrap .i64 (x2 + 1)), x3, ())) else none))
 else
 some (.inr (.inl ((), x1, x3, ()))))
theorem r6_6 (v12 : (Ya3 × Unit) → Bool) (k12 : (Ya3 × Unit) → Bool) (lv0 : Ya1 → Ya4) (lk0 : Ya1 → Bool) (lv2 : Ya1 → Ya4) (lk2 : Ya1 → Bool) (lv6 : Ya9 → Ya28) (lk6 : Ya9 → Bool) (lv4 : Ya1 → Ya4) (lk4 : Ya1 → Bool) (x0 : Unit) (x1 : Int) (x2 : Int) (x3 : KD6) : codeT (CxL Try.Θ (kOf [(12, sm [KT11] .bool v12 k12)]) (lOf [(0, orc 142 25 0 hd6_0 ys6_0 lv0 lk0), (2, orc 142 49 2 hd6_2 ys6_2 lv2 lk2), (6, orc 142 97 6 hd6_6 ys6_6 lv6 lk6), (4, orc 142 73 4 hd6_4 ys6_4 lv4 lk4)])) (loopB 6 (bodyF Try.f6)) (mkS 142 97 hd6_6 (x0, x1, x2, x3, ())) (leafR 142 hd6_6 ys6_6) = R6_6 v12 k12 lv0 lk0 lv2 lk2 lv6 lk6 lv4 lk4 x0 x1 x2 x3 := by kernel_rfl
noncomputable def R6_4 (v12 : (Ya3 × Unit) → Bool) (k12 : (Ya3 × Unit) → Bool) (lv0 : Ya1 → Ya4) (lk0 : Ya1 → Bool) (lv2 : Ya1 → Ya4) (lk2 : Ya1 → Bool) (lv6 : Ya9 → Ya28) (lk6 : Ya9 → Bool) (lv4 : Ya1 → Ya4) (lk4 : Ya1 → Bool) (x0 : Unit) (x1 : Int) (x2 : KD6) : Option (Ya1 ⊕ Ya4) :=
 (bif (decide (x1 < ((x2.2.2.2.1.length : Nat) : Int))) then
 (bif (decide ((x2.2.2.2.1.getD (Int.toNat x1) 0) < 1)) then
 (bif (tt 2 ((decide (0 ≤ x1)) && (decide (x1 < ((x2.2.2.2.1.length : Nat) : Int))))) then some (.inr (.inr (false, ()))) else none)
 else
 (bif (decide ((x2.2.2.2.1.getD (Int.toNat x1) 0) > 1099511627776)) then
 (bif (tt 1 (((decide (0 ≤ x1)) && (decide (x1 < ((x2.2.2.2.1.length : Nat) : Int)))) && (tt 1 ((decide (0 ≤ x1)) && (decide (x1 < ((x2.2.2.2.1.length : Nat) : Int))))))) then some (.inr (.inr (false, ()))) else none)
 else
 (bif (isL (lv6 ((), x1, 0, x2, ()))) then
 (bif (tt 1 ((lk6 ((), x1, 0, x2, ())) && (tt 1 (((decide (0 ≤ x1)) && (decide (x1 < ((x2.2.2.2.1.length : Nat) : Int)))) && (tt 1 ((decide (0 ≤ x1)) && (decide (x1 < ((x2.2.2.2.1.length : Nat) : Int))))))))) then some (.inl ((), (IntKind.wrap .i64 ((getL (((), 0, ([], ([], (0, ([], (0, ()))))), ()) : Ya1) (lv6 ((), x1, 0, x2, ()))).2.1 + 1)), (getL (((), 0, ([], ([], (0, ([], (0, ()))))), ()) : Ya1) (lv6 ((), x1, 0, x2, ()))).2.2.1, ())) else none)
 else
 (bif (tt 1 ((lk6 ((), x1, 0, x2, ())) && (tt 1 (((decide (0 ≤ x1)) && (decide (x1 < ((x2.2.2.2.1.length : Nat) : Int)))) && (tt 1 ((decide (0 ≤ x1)) && (decide (x1 < ((x2.2.2.2.1.length : Nat) : Int))))))))) then some (.inr (.inr ((getR ((false, ()) : (Bool × Unit)) (lv6 ((), x1, 0, x2, ()))).1, ()))) else none))))
 else
 some (.inr (.inl ((), x2, ()))))
theorem r6_4 (v12 : (Ya3 × Unit) → Bool) (k12 : (Ya3 × Unit) → Bool) (lv0 : Ya1 → Ya4) (lk0 : Ya1 → Bool) (lv2 : Ya1 → Ya4) (lk2 : Ya1 → Bool) (lv6 : Ya9 → Ya28) (lk6 : Ya9 → Bool) (lv4 : Ya1 → Ya4) (lk4 : Ya1 → Bool) (x0 : Unit) (x1 : Int) (x2 : KD6) : codeT (CxL Try.Θ (kOf [(12, sm [KT11] .bool v12 k12)]) (lOf [(0, orc 142 25 0 hd6_0 ys6_0 lv0 lk0), (2, orc 142 49 2 hd6_2 ys6_2 lv2 lk2), (6, orc 142 97 6 hd6_6 ys6_6 lv6 lk6), (4, orc 142 73 4 hd6_4 ys6_4 lv4 lk4)])) (loopB 4 (bodyF Try.f6)) (mkS 142 73 hd6_4 (x0, x1, x2, ())) (leafR 142 hd6_4 ys6_4) = R6_4 v12 k12 lv0 lk0 lv2 lk2 lv6 lk6 lv4 lk4 x0 x1 x2 := by kernel_rfl
noncomputable def S6 (v12 : (Ya3 × Unit) → Bool) (k12 : (Ya3 × Unit) → Bool) (lv0 : Ya1 → Ya4) (lk0 : Ya1 → Bool) (lv2 : Ya1 → Ya4) (lk2 : Ya1 → Bool) (lv6 : Ya9 → Ya28) (lk6 : Ya9 → Bool) (lv4 : Ya1 → Ya4) (lk4 : Ya1 → Bool) (a0 : KD6) : Option Bool :=
 (bif (isL (lv0 ((), 0, a0, ()))) then
 (bif (isL (lv2 ((), 0, (getL (((), ([], ([], (0, ([], (0, ()))))), ()) : Ya13) (lv0 ((), 0, a0, ()))).2.1, ()))) then
 (bif (isL (lv4 ((), 0, (getL (((), ([], ([], (0, ([], (0, ()))))), ()) : Ya13) (lv2 ((), 0, (getL (((), ([], ([], (0, ([], (0, ()))))), ()) : Ya13) (lv0 ((), 0, a0, ()))).2.1, ()))).2.1, ()))) then
 (bif (decide ((getL (((), ([], ([], (0, ([], (0, ()))))), ()) : Ya13) (lv4 ((), 0, (getL (((), ([], ([], (0, ([], (0, ()))))), ()) : Ya13) (lv2 ((), 0, (getL (((), ([], ([], (0, ([], (0, ()))))), ()) : Ya13) (lv0 ((), 0, a0, ()))).2.1, ()))).2.1, ()))).2.1.2.2.1 ≥ 0)) then
 (bif (decide ((getL (((), ([], ([], (0, ([], (0, ()))))), ()) : Ya13) (lv4 ((), 0, (getL (((), ([], ([], (0, ([], (0, ()))))), ()) : Ya13) (lv2 ((), 0, (getL (((), ([], ([], (0, ([], (0, ()))))), ()) : Ya13) (lv0 ((), 0, a0, ()))).2.1, ()))).2.1, ()))).2.1.2.2.1 ≤ 1048576)) then
 (bif (decide ((getL (((), ([], ([], (0, ([], (0, ()))))), ()) : Ya13) (lv4 ((), 0, (getL (((), ([], ([], (0, ([], (0, ()))))), ()) : Ya13) (lv2 ((), 0, (getL (((), ([], ([], (0, ([], (0, ()))))), ()) : Ya13) (lv0 ((), 0, a0, ()))).2.1, ()))).2.1, ()))).2.1.2.2.2.2.1 ≥ 0)) then
 (bif ((lk4 ((), 0, (getL (((), ([], ([], (0, ([], (0, ()))))), ()) : Ya13) (lv2 ((), 0, (getL (((), ([], ([], (0, ([], (0, ()))))), ()) : Ya13) (lv0 ((), 0, a0, ()))).2.1, ()))).2.1, ())) && (tt 1 ((lk2 ((), 0, (getL (((), ([], ([], (0, ([], (0, ()))))), ()) : Ya13) (lv0 ((), 0, a0, ()))).2.1, ())) && (tt 2 (lk0 ((), 0, a0, ())))))) then some (decide ((getL (((), ([], ([], (0, ([], (0, ()))))), ()) : Ya13) (lv4 ((), 0, (getL (((), ([], ([], (0, ([], (0, ()))))), ()) : Ya13) (lv2 ((), 0, (getL (((), ([], ([], (0, ([], (0, ()))))), ()) : Ya13) (lv0 ((), 0, a0, ()))).2.1, ()))).2.1, ()))).2.1.2.2.2.2.1 ≤ 1099511627776)) else none)
 else
 (bif ((lk4 ((), 0, (getL (((), ([], ([], (0, ([], (0, ()))))), ()) : Ya13) (lv2 ((), 0, (getL (((), ([], ([], (0, ([], (0, ()))))), ()) : Ya13) (lv0 ((), 0, a0, ()))).2.1, ()))).2.1, ())) && (tt 1 ((lk2 ((), 0, (getL (((), ([], ([], (0, ([], (0, ()))))), ()) : Ya13) (lv0 ((), 0, a0, ()))).2.1, ())) && (tt 2 (lk0 ((), 0, a0, ())))))) then some false else none))
 else
 (bif ((lk4 ((), 0, (getL (((), ([], ([], (0, ([], (0, ()))))), ()) : Ya13) (lv2 ((), 0, (getL (((), ([], ([], (0, ([], (0, ()))))), ()) : Ya13) (lv0 ((), 0, a0, ()))).2.1, ()))).2.1, ())) && (tt 1 ((lk2 ((), 0, (getL (((), ([], ([], (0, ([], (0, ()))))), ()) : Ya13) (lv0 ((), 0, a0, ()))).2.1, ())) && (tt 2 (lk0 ((), 0, a0, ())))))) then some false else none))
 else
 (bif ((lk4 ((), 0, (getL (((), ([], ([], (0, ([], (0, ()))))), ()) : Ya13) (lv2 ((), 0, (getL (((), ([], ([], (0, ([], (0, ()))))), ()) : Ya13) (lv0 ((), 0, a0, ()))).2.1, ()))).2.1, ())) && (tt 1 ((lk2 ((), 0, (getL (((), ([], ([], (0, ([], (0, ()))))), ()) : Ya13) (lv0 ((), 0, a0, ()))).2.1, ())) && (tt 2 (lk0 ((), 0, a0, ())))))) then some false else none))
 else
 (bif ((lk4 ((), 0, (getL (((), ([], ([], (0, ([], (0, ()))))), ()) : Ya13) (lv2 ((), 0, (getL (((), ([], ([], (0, ([], (0, ()))))), ()) : Ya13) (lv0 ((), 0, a0, ()))).2.1, ()))).2.1, ())) && (tt 1 ((lk2 ((), 0, (getL (((), ([], ([], (0, ([], (0, ()))))), ()) : Ya13) (lv0 ((), 0, a0, ()))).2.1, ())) && (tt 2 (lk0 ((), 0, a0, ())))))) then some (getR ((false, ()) : (Bool × Unit)) (lv4 ((), 0, (getL (((), ([], ([], (0, ([], (0, ()))))), ()) : Ya13) (lv2 ((), 0, (getL (((), ([], ([], (0, ([], (0, ()))))), ()) : Ya13) (lv0 ((), 0, a0, ()))).2.1, ()))).2.1, ()))).1 else none))
 else
 (bif ((lk2 ((), 0, (getL (((), ([], ([], (0, ([], (0, ()))))), ()) : Ya13) (lv0 ((), 0, a0, ()))).2.1, ())) && (tt 2 (lk0 ((), 0, a0, ())))) then some (getR ((false, ()) : (Bool × Unit)) (lv2 ((), 0, (getL (((), ([], ([], (0, ([], (0, ()))))), ()) : Ya13) (lv0 ((), 0, a0, ()))).2.1, ()))).1 else none))
 else
 (bif (tt 1 (lk0 ((), 0, a0, ()))) then some (getR ((false, ()) : (Bool × Unit)) (lv0 ((), 0, a0, ()))).1 else none))
theorem t6 (v12 : (Ya3 × Unit) → Bool) (k12 : (Ya3 × Unit) → Bool) (lv0 : Ya1 → Ya4) (lk0 : Ya1 → Bool) (lv2 : Ya1 → Ya4) (lk2 : Ya1 → Bool) (lv6 : Ya9 → Ya28) (lk6 : Ya9 → Bool) (lv4 : Ya1 → Ya4) (lk4 : Ya1 → Bool) (a0 : KD6) : fnT (CxL Try.Θ (kOf [(12, sm [KT11] .bool v12 k12)]) (lOf [(0, orc 142 25 0 hd6_0 ys6_0 lv0 lk0), (2, orc 142 49 2 hd6_2 ys6_2 lv2 lk2), (6, orc 142 97 6 hd6_6 ys6_6 lv6 lk6), (4, orc 142 73 4 hd6_4 ys6_4 lv4 lk4)])) Try.f6 .bool [⟨KT17, a0⟩] = S6 v12 k12 lv0 lk0 lv2 lk2 lv6 lk6 lv4 lk4 a0 := by kernel_rfl
noncomputable def S50  (a0 : Int) : Option Int :=
 some (IntKind.wrap .i64 ((IntKind.wrap .i64 (Int.tdiv (IntKind.wrap .i64 (a0 + 7)) 8)) * 8))
theorem t50  (a0 : Int) : fnT (CxL Try.Θ (kOf []) (lOf [])) Try.f50 (.int .i64) [⟨(.int .i64), a0⟩] = S50  a0 := by kernel_rfl
noncomputable def S28 (v50 : (Int × Unit) → Int) (k50 : (Int × Unit) → Bool) (a0 : (Int × KD1)) (a1 : Int) : Option Bool :=
 (bif (decide (a0.1 = 2)) then
 (bif (decide (a0.2.1 = 4)) then
 (bif (decide (a0.2.2.1 ≥ 1)) then
 (bif (decide (a0.2.2.1 ≤ 4096)) then
 (bif (decide (a0.2.2.2.1 ≥ 1)) then
 (bif (decide (a0.2.2.2.1 ≤ 4096)) then
 (bif (decide (a1 ≥ 1)) then
 (bif (decide (a1 ≤ 8)) then
 (bif (tt 1 (k50 (a0.2.2.1, ()))) then some (decide ((IntKind.wrap .i64 (a0.2.2.2.1 * (v50 (a0.2.2.1, ())))) ≤ 1048576)) else none)
 else
 some false)
 else
 some false)
 else
 some false)
 else
 some false)
 else
 some false)
 else
 some false)
 else
 some false)
 else
 (bif (decide (a0.1 = 6)) then
 (bif (decide (a0.2.1 = 4)) then
 (bif (decide (a0.2.2.1 ≥ 1)) then
 (bif (decide (a0.2.2.1 ≤ 4096)) then
 (bif (decide (a0.2.2.2.1 ≥ 1)) then
 (bif (decide (a0.2.2.2.1 ≤ 4096)) then
 (bif (decide (a1 ≥ 1)) then
 (bif (decide (a1 ≤ 8)) then
 (bif (tt 1 (k50 (a0.2.2.1, ()))) then some (decide ((IntKind.wrap .i64 (a0.2.2.2.1 * (v50 (a0.2.2.1, ())))) ≤ 1048576)) else none)
 else
 some false)
 else
 some false)
 else
 some false)
 else
 some false)
 else
 some false)
 else
 some false)
 else
 some false)
 else
 some false))
theorem t28 (v50 : (Int × Unit) → Int) (k50 : (Int × Unit) → Bool) (a0 : (Int × KD1)) (a1 : Int) : fnT (CxL Try.Θ (kOf [(50, sm [(.int .i64)] (.int .i64) v50 k50)]) (lOf [])) Try.f28 .bool [⟨KT21, a0⟩, ⟨(.int .i64), a1⟩] = S28 v50 k50 a0 a1 := by kernel_rfl
noncomputable def S29  (a0 : (Int × KD1)) : Option Bool :=
 (bif (decide (a0.1 = 22)) then
 (bif (decide (a0.2.1 = 0)) then
 (bif (decide (a0.2.2.1 ≥ 1)) then
 (bif (decide (a0.2.2.1 ≤ 4096)) then (bif (decide (a0.2.2.2.1 ≥ 1)) then some (decide (a0.2.2.2.1 ≤ 4096)) else some false) else some false)
 else
 some false)
 else
 some false)
 else
 (bif (decide (a0.1 = 23)) then
 (bif (decide (a0.2.1 = 0)) then
 (bif (decide (a0.2.2.1 ≥ 1)) then
 (bif (decide (a0.2.2.1 ≤ 4096)) then (bif (decide (a0.2.2.2.1 ≥ 1)) then some (decide (a0.2.2.2.1 ≤ 4096)) else some false) else some false)
 else
 some false)
 else
 some false)
 else
 some false))
theorem t29  (a0 : (Int × KD1)) : fnT (CxL Try.Θ (kOf []) (lOf [])) Try.f29 .bool [⟨KT21, a0⟩] = S29  a0 := by kernel_rfl
noncomputable def S30  (a0 : (Int × KD1)) : Option Bool :=
 (bif (decide (a0.1 = 1)) then
 (bif (decide (a0.2.1 ≥ 1)) then
 (bif (decide (a0.2.1 ≤ 512)) then
 (bif (decide (a0.2.2.1 ≥ 1)) then
 (bif (decide (a0.2.2.1 ≤ 4096)) then (bif (decide (a0.2.2.2.1 ≥ 1)) then some (decide (a0.2.2.2.1 ≤ 4096)) else some false) else some false)
 else
 some false)
 else
 some false)
 else
 some false)
 else
 (bif (decide (a0.1 = 9)) then
 (bif (decide (a0.2.1 ≥ 1)) then
 (bif (decide (a0.2.1 ≤ 512)) then
 (bif (decide (a0.2.2.1 ≥ 1)) then
 (bif (decide (a0.2.2.1 ≤ 4096)) then (bif (decide (a0.2.2.2.1 ≥ 1)) then some (decide (a0.2.2.2.1 ≤ 4096)) else some false) else some false)
 else
 some false)
 else
 some false)
 else
 some false)
 else
 some false))
theorem t30  (a0 : (Int × KD1)) : fnT (CxL Try.Θ (kOf []) (lOf [])) Try.f30 .bool [⟨KT21, a0⟩] = S30  a0 := by kernel_rfl
noncomputable def S31  (a0 : (Int × KD1)) : Option Bool :=
 (bif (decide (a0.1 = 11)) then
 (bif (decide (a0.2.1 ≥ 5)) then
 (bif (decide (a0.2.1 ≤ 260)) then
 (bif (decide (a0.2.2.1 ≥ 1)) then
 (bif (decide (a0.2.2.1 ≤ 4096)) then (bif (decide (a0.2.2.2.1 ≥ 1)) then some (decide (a0.2.2.2.1 ≤ 4096)) else some false) else some false)
 else
 some false)
 else
 some false)
 else
 some false)
 else
 some false)
theorem t31  (a0 : (Int × KD1)) : fnT (CxL Try.Θ (kOf []) (lOf [])) Try.f31 .bool [⟨KT21, a0⟩] = S31  a0 := by kernel_rfl
noncomputable def S32  (a0 : (Int × KD1)) : Option Bool :=
 (bif (decide (a0.1 = 27)) then
 (bif (decide (a0.2.1 = 0)) then
 (bif (decide (a0.2.2.1 = 0)) then
 (bif (decide (a0.2.2.2.1 ≥ 64)) then
 (bif (decide (a0.2.2.2.1 ≤ 65536)) then some (decide ((iand .i64 a0.2.2.2.1 (IntKind.wrap .i64 (a0.2.2.2.1 - 1))) = 0)) else some false)
 else
 some false)
 else
 some false)
 else
 some false)
 else
 some false)
theorem t32  (a0 : (Int × KD1)) : fnT (CxL Try.Θ (kOf []) (lOf [])) Try.f32 .bool [⟨KT21, a0⟩] = S32  a0 := by kernel_rfl
noncomputable def S33  (a0 : (Int × KD1)) : Option Bool :=
 (bif (decide (a0.1 = 3)) then
 (bif (decide (a0.2.1 = 4)) then
 (bif (decide (a0.2.2.1 = 4)) then (bif (decide (a0.2.2.2.1 ≥ 1)) then some (decide (a0.2.2.2.1 ≤ 4096)) else some false) else some false)
 else
 some false)
 else
 some false)
theorem t33  (a0 : (Int × KD1)) : fnT (CxL Try.Θ (kOf []) (lOf [])) Try.f33 .bool [⟨KT21, a0⟩] = S33  a0 := by kernel_rfl
noncomputable def S13 (v28 : ((Int × KD1) × Int × Unit) → Bool) (k28 : ((Int × KD1) × Int × Unit) → Bool) (v29 : Ya8 → Bool) (k29 : Ya8 → Bool) (v30 : Ya8 → Bool) (k30 : Ya8 → Bool) (v31 : Ya8 → Bool) (k31 : Ya8 → Bool) (v32 : Ya8 → Bool) (k32 : Ya8 → Bool) (v33 : Ya8 → Bool) (k33 : Ya8 → Bool) (a0 : (Int × KD1)) : Option Int :=
 (bif (v28 (a0, 1, ())) then
 (bif (tt 1 (k28 (a0, 1, ()))) then some 0 else none)
 else
 (bif (v29 (a0, ())) then
 (bif ((k29 (a0, ())) && (tt 1 (k28 (a0, 1, ())))) then some 0 else none)
 else
 (bif (v30 (a0, ())) then
 (bif ((k30 (a0, ())) && ((k29 (a0, ())) && (tt 1 (k28 (a0, 1, ()))))) then some 0 else none)
 else
 (bif (v31 (a0, ())) then
 (bif ((k31 (a0, ())) && ((k30 (a0, ())) && ((k29 (a0, ())) && (tt 1 (k28 (a0, 1, ())))))) then some 0 else none)
 else
 (bif (v32 (a0, ())) then
 (bif ((k32 (a0, ())) && ((k31 (a0, ())) && ((k30 (a0, ())) && ((k29 (a0, ())) && (tt 1 (k28 (a0, 1, ()))))))) then some 0 else none)
 else
 (bif (v33 (a0, ())) then
 (bif ((k33 (a0, ())) && ((k32 (a0, ())) && ((k31 (a0, ())) && ((k30 (a0, ())) && ((k29 (a0, ())) && (tt 1 (k28 (a0, 1, ())))))))) then some 0 else none)
 else
 (bif ((k33 (a0, ())) && ((k32 (a0, ())) && ((k31 (a0, ())) && ((k30 (a0, ())) && ((k29 (a0, ())) && (tt 1 (k28 (a0, 1, ())))))))) then some 1 else none)))))))
theorem t13 (v28 : ((Int × KD1) × Int × Unit) → Bool) (k28 : ((Int × KD1) × Int × Unit) → Bool) (v29 : Ya8 → Bool) (k29 : Ya8 → Bool) (v30 : Ya8 → Bool) (k30 : Ya8 → Bool) (v31 : Ya8 → Bool) (k31 : Ya8 → Bool) (v32 : Ya8 → Bool) (k32 : Ya8 → Bool) (v33 : Ya8 → Bool) (k33 : Ya8 → Bool) (a0 : (Int × KD1)) : fnT (CxL Try.Θ (kOf [(28, sm [KT21, (.int .i64)] .bool v28 k28), (29, sm [KT21] .bool v29 k29), (30, sm [KT21] .bool v30 k30), (31, sm [KT21] .bool v31 k31), (32, sm [KT21] .bool v32 k32), (33, sm [KT21] .bool v33 k33)]) (lOf [])) Try.f13 (.int .i64) [⟨KT21, a0⟩] = S13 v28 k28 v29 k29 v30 k30 v31 k31 v32 k32 v33 k33 a0 := by kernel_rfl
def hd7_0 : List It := [.sl 0 (.vsl KT21), .sl 3 (.int .i64)]
def ys7_0 : Ways := [((.exit 0), []), (.ret, [.sl 2 .bool])]
noncomputable def R7_0 (v13 : Ya8 → Int) (k13 : Ya8 → Bool) (lv0 : Ya30 → ((Unit) ⊕ (Bool × Unit))) (lk0 : Ya30 → Bool) (x0 : Ya14) (x1 : Int) : Option (Ya30 ⊕ ((Unit) ⊕ (Bool × Unit))) :=
 (bif (decide (x1 < ((x0.length : Nat) : Int))) then
 (bif (!(decide ((v13 ((x0.getD (Int.toNat x1) (0, (0, (0, (0, ()))))), ())) = 0))) then
 (bif (tt 1 ((k13 ((x0.getD (Int.toNat x1) (0, (0, (0, (0, ()))))), ())) && (tt 1 ((decide (0 ≤ x1)) && (decide (x1 < ((x0.length : Nat) : Int))))))) then some (.inr (.inr (false, ()))) else none)
 else
 (bif (tt 1 ((k13 ((x0.getD (Int.toNat x1) (0, (0, (0, (0, ()))))), ())) && (tt 1 ((decide (0 ≤ x1)) && (decide (x1 < ((x0.length : Nat) : Int))))))) then some (.inl (x0, (IntKind.wrap .i64 (x1 + 1)), ())) else none))
 else
 some (.inr (.inl (()))))
theorem r7_0 (v13 : Ya8 → Int) (k13 : Ya8 → Bool) (lv0 : Ya30 → ((Unit) ⊕ (Bool × Unit))) (lk0 : Ya30 → Bool) (x0 : Ya14) (x1 : Int) : codeT (CxL Try.Θ (kOf [(13, sm [KT21] (.int .i64) v13 k13)]) (lOf [(0, orc 16 24 0 hd7_0 ys7_0 lv0 lk0)])) (loopB 0 (bodyF Try.f7)) (mkS 16 24 hd7_0 (x0, x1, ())) (leafR 16 hd7_0 ys7_0) = R7_0 v13 k13 lv0 lk0 x0 x1 := by kernel_rfl
noncomputable def S7 (v13 : Ya8 → Int) (k13 : Ya8 → Bool) (lv0 : Ya30 → ((Unit) ⊕ (Bool × Unit))) (lk0 : Ya30 → Bool) (a0 : Ya14) : Option Bool :=
 (bif (isL (lv0 (a0, 0, ()))) then
 (bif (tt 1 (lk0 (a0, 0, ()))) then some true else none)
 else
 (bif (tt 1 (lk0 (a0, 0, ()))) then some (getR ((false, ()) : (Bool × Unit)) (lv0 (a0, 0, ()))).1 else none))
theorem t7 (v13 : Ya8 → Int) (k13 : Ya8 → Bool) (lv0 : Ya30 → ((Unit) ⊕ (Bool × Unit))) (lk0 : Ya30 → Bool) (a0 : Ya14) : fnT (CxL Try.Θ (kOf [(13, sm [KT21] (.int .i64) v13 k13)]) (lOf [(0, orc 16 24 0 hd7_0 ys7_0 lv0 lk0)])) Try.f7 .bool [⟨(.vsl KT21), a0⟩] = S7 v13 k13 lv0 lk0 a0 := by kernel_rfl
noncomputable def S36  (a0 : (List Int)) (a1 : (List Int)) : Option Ya34 :=
 some ((a1, (a0, ())), true, ())
theorem t36  (a0 : (List Int)) (a1 : (List Int)) : fnT (CxL Try.Θ (kOf []) (lOf [])) Try.f36 KT25 [⟨(.vsl (.int .i64)), a0⟩, ⟨(.vsl (.int .i64)), a1⟩] = S36  a0 a1 := by kernel_rfl
noncomputable def S16 (v36 : Ya33 → Ya34) (k36 : Ya33 → Bool) (a0 : Int) : Option Ya34 :=
 (bif (decide (a0 = 1)) then
 (bif (tt 1 (k36 ([1, 2, 6, 9, 11], [0, 1], ()))) then some ((v36 ([1, 2, 6, 9, 11], [0, 1], ())).1, (v36 ([1, 2, 6, 9, 11], [0, 1], ())).2.1, ()) else none)
 else
 (bif (decide (a0 = 2)) then
 (bif (tt 1 (k36 ([1, 2, 6, 9, 11], [0, 1, 2, 4], ()))) then some ((v36 ([1, 2, 6, 9, 11], [0, 1, 2, 4], ())).1, (v36 ([1, 2, 6, 9, 11], [0, 1, 2, 4], ())).2.1, ()) else none)
 else
 (bif (decide (a0 = 3)) then
 (bif (tt 1 (k36 ([1, 9, 11], [0, 1], ()))) then some ((v36 ([1, 9, 11], [0, 1], ())).1, (v36 ([1, 9, 11], [0, 1], ())).2.1, ()) else none)
 else
 (bif (decide (a0 = 5)) then
 (bif (tt 1 (k36 ([], [], ()))) then some ((v36 ([], [], ())).1, (v36 ([], [], ())).2.1, ()) else none)
 else
 (bif (decide (a0 = 7)) then
 (bif (tt 1 (k36 ([], [], ()))) then some ((v36 ([], [], ())).1, (v36 ([], [], ())).2.1, ()) else none)
 else
 (bif (decide (a0 = 8)) then
 (bif (tt 1 (k36 ([], [], ()))) then some ((v36 ([], [], ())).1, (v36 ([], [], ())).2.1, ()) else none)
 else
 (bif (decide (a0 = 12)) then
 (bif (tt 1 (k36 ([3], [5, 0, 4], ()))) then some ((v36 ([3], [5, 0, 4], ())).1, (v36 ([3], [5, 0, 4], ())).2.1, ()) else none)
 else
 (bif (decide (a0 = 44)) then
 (bif (tt 1 (k36 ([], [5, 4], ()))) then some ((v36 ([], [5, 4], ())).1, (v36 ([], [5, 4], ())).2.1, ()) else none)
 else
 (bif (decide (a0 = 87)) then
 (bif (tt 1 (k36 ([22, 23], [0, 2, 4], ()))) then some ((v36 ([22, 23], [0, 2, 4], ())).1, (v36 ([22, 23], [0, 2, 4], ())).2.1, ()) else none)
 else
 (bif (decide (a0 = 88)) then
 (bif (tt 1 (k36 ([22, 23], [0, 3], ()))) then some ((v36 ([22, 23], [0, 3], ())).1, (v36 ([22, 23], [0, 3], ())).2.1, ()) else none)
 else
 (bif (decide (a0 = 89)) then
 (bif (tt 1 (k36 ([22, 23], [0, 3], ()))) then some ((v36 ([22, 23], [0, 3], ())).1, (v36 ([22, 23], [0, 3], ())).2.1, ()) else none)
 else
 (bif (decide (a0 = 130)) then
 (bif (tt 1 (k36 ([27], [0, 7, 6, 4], ()))) then some ((v36 ([27], [0, 7, 6, 4], ())).1, (v36 ([27], [0, 7, 6, 4], ())).2.1, ()) else none)
 else
 (bif (decide (a0 = 131)) then
 (bif (tt 1 (k36 ([27], [0, 6, 4], ()))) then some ((v36 ([27], [0, 6, 4], ())).1, (v36 ([27], [0, 6, 4], ())).2.1, ()) else none)
 else
 (bif (decide (a0 = 132)) then
 (bif (tt 1 (k36 ([], [8, 4], ()))) then some ((v36 ([], [8, 4], ())).1, (v36 ([], [8, 4], ())).2.1, ()) else none)
 else
 (bif (decide (a0 = 133)) then
 (bif (tt 1 (k36 ([], [8, 4], ()))) then some ((v36 ([], [8, 4], ())).1, (v36 ([], [8, 4], ())).2.1, ()) else none)
 else
 some (([], ([], ())), false, ()))))))))))))))))
theorem t16 (v36 : Ya33 → Ya34) (k36 : Ya33 → Bool) (a0 : Int) : fnT (CxL Try.Θ (kOf [(36, sm [(.vsl (.int .i64)), (.vsl (.int .i64))] KT25 v36 k36)]) (lOf [])) Try.f16 KT25 [⟨(.int .i64), a0⟩] = S16 v36 k36 a0 := by kernel_rfl
noncomputable def S51  (x : (KD6 × KD26)) (a0 : Ya3) : Option KD27 :=
 (bif (!(decide (a0.1 = 6))) then
 some ((0, (0, (0, (0, ())))), false, ())
 else
 (bif (decide (a0.2.2.1 < 0)) then
 some ((0, (0, (0, (0, ())))), false, ())
 else
 (bif (decide (a0.2.2.1 ≥ ((x.2.1.length : Nat) : Int))) then
 some ((0, (0, (0, (0, ())))), false, ())
 else
 (bif (tt 2 ((decide (0 ≤ a0.2.2.1)) && (decide (a0.2.2.1 < ((x.2.1.length : Nat) : Int))))) then some ((x.2.1.getD (Int.toNat a0.2.2.1) (0, (0, (0, (0, ()))))), true, ()) else none))))
theorem t51  (x : (KD6 × KD26)) (a0 : Ya3) : fnR (CxL Try.Θ (kOf []) (lOf [])) Try.f51 OD0 [0] 1 KT29 [⟨KT11, a0⟩] x = S51  x a0 := by kernel_rfl
def hd46_0 : List It := [.sl 0 (.vsl (.int .i64)), .sl 1 (.int .i64), .sl 7 (.int .i64), .sl 8 (.int .i64)]
def ys46_0 : Ways := [((.exit 0), []), (.ret, [.sl 4 (.int .i64)])]
noncomputable def R46_0 (lv0 : Ya19 → Ya25) (lk0 : Ya19 → Bool) (x0 : (List Int)) (x1 : Int) (x2 : Int) (x3 : Int) : Option (Ya19 ⊕ Ya25) :=
 (bif (decide (x3 < x2)) then
 (bif (decide (x1 = (x0.getD (Int.toNat x3) 0))) then
 (bif (tt 2 ((decide (0 ≤ x3)) && (decide (x3 < ((x0.length : Nat) : Int))))) then some (.inr (.inr (x3, ()))) else none)
 else
 (bif (tt 2 ((decide (0 ≤ x3)) && (decide (x3 < ((x0.length : Nat) : Int))))) then some (.inl (x0, x1, x2, (IntKind.wrap .i64 (x3 + 1)), ())) else none))
 else
 some (.inr (.inl (()))))
theorem r46_0 (lv0 : Ya19 → Ya25) (lk0 : Ya19 → Bool) (x0 : (List Int)) (x1 : Int) (x2 : Int) (x3 : Int) : codeT (CxL Try.Θ (kOf []) (lOf [(0, orc 19 24 0 hd46_0 ys46_0 lv0 lk0)])) (loopB 0 (bodyF Try.f46)) (mkS 19 24 hd46_0 (x0, x1, x2, x3, ())) (leafR 19 hd46_0 ys46_0) = R46_0 lv0 lk0 x0 x1 x2 x3 := by kernel_rfl
noncomputable def S46 (lv0 : Ya19 → Ya25) (lk0 : Ya19 → Bool) (a0 : (List Int)) (a1 : Int) : Option Int :=
 (bif (isL (lv0 (a0, a1, ((a0.length : Nat) : Int), 0, ()))) then
 (bif (tt 1 (lk0 (a0, a1, ((a0.length : Nat) : Int), 0, ()))) then some (-1) else none)
 else
 (bif (tt 1 (lk0 (a0, a1, ((a0.length : Nat) : Int), 0, ()))) then some (getR ((0, ()) : (Int × Unit)) (lv0 (a0, a1, ((a0.length : Nat) : Int), 0, ()))).1 else none))
theorem t46 (lv0 : Ya19 → Ya25) (lk0 : Ya19 → Bool) (a0 : (List Int)) (a1 : Int) : fnT (CxL Try.Θ (kOf []) (lOf [(0, orc 19 24 0 hd46_0 ys46_0 lv0 lk0)])) Try.f46 (.int .i64) [⟨(.vsl (.int .i64)), a0⟩, ⟨(.int .i64), a1⟩] = S46 lv0 lk0 a0 a1 := by kernel_rfl
noncomputable def S25 (v46 : Ya21 → Int) (k46 : Ya21 → Bool) (a0 : (List Int)) (a1 : Int) : Option Bool :=
 (bif (tt 1 (k46 (a0, a1, ()))) then some (decide ((v46 (a0, a1, ())) ≥ 0)) else none)
theorem t25 (v46 : Ya21 → Int) (k46 : Ya21 → Bool) (a0 : (List Int)) (a1 : Int) : fnT (CxL Try.Θ (kOf [(46, sm [(.vsl (.int .i64)), (.int .i64)] (.int .i64) v46 k46)]) (lOf [])) Try.f25 .bool [⟨(.vsl (.int .i64)), a0⟩, ⟨(.int .i64), a1⟩] = S25 v46 k46 a0 a1 := by kernel_rfl
noncomputable def S57  (a0 : Bool) (a1 : Int) : Option (Int ⊕ Unit) :=
 (bif (!a0) then some (.inl a1) else some (.inr ()))
theorem t57  (a0 : Bool) (a1 : Int) : fnP (CxL Try.Θ (kOf []) (lOf [])) 108 Try.f57 .tnil [⟨.bool, a0⟩, ⟨(.int .i64), a1⟩] = S57  a0 a1 := by kernel_rfl
noncomputable def S65 (v57 : Ya11 → Unit) (k57 : Ya11 → Bool) (q57_0 : Ya11 → Bool) (a0 : KD6) (a1 : Ya14) (a2 : Ya3) (a3 : Int) : Option (Int ⊕ Unit) :=
 (bif (decide (a2.1 = 4)) then
 (bif (decide (a2.2.1.2.2.1 ≤ 536870912)) then
 (bif (q57_0 ((decide (a3 ≤ (IntKind.wrap .i64 (a0.2.2.1 - (IntKind.wrap .i64 a2.2.1.2.2.1))))), 62, ())) then
 some (.inl 62)
 else
 (bif (tt 1 (k57 ((decide (a3 ≤ (IntKind.wrap .i64 (a0.2.2.1 - (IntKind.wrap .i64 a2.2.1.2.2.1))))), 62, ()))) then some (.inr ()) else none))
 else
 (bif (q57_0 (false, 62, ())) then some (.inl 62) else (bif (tt 1 (k57 (false, 62, ()))) then some (.inr ()) else none)))
 else
 (bif (decide (a2.1 = 9)) then
 (bif (decide (a2.2.1.2.2.1 ≤ 536870912)) then
 (bif (q57_0 ((decide (a3 ≤ (IntKind.wrap .i64 (a2.2.2.2.2.1 - (IntKind.wrap .i64 a2.2.1.2.2.1))))), 62, ())) then
 some (.inl 62)
 else
 (bif (tt 1 (k57 ((decide (a3 ≤ (IntKind.wrap .i64 (a2.2.2.2.2.1 - (IntKind.wrap .i64 a2.2.1.2.2.1))))), 62, ()))) then some (.inr ()) else none))
 else
 (bif (q57_0 (false, 62, ())) then some (.inl 62) else (bif (tt 1 (k57 (false, 62, ()))) then some (.inr ()) else none)))
 else
 (bif (decide (a2.1 = 7)) then
 (bif (decide (a2.2.2.1 ≥ 0)) then
 (bif (q57_0 ((decide (a2.2.2.1 < ((a1.length : Nat) : Int))), 61, ())) then
 some (.inl 61)
 else
 (bif (decide (a2.2.1.2.2.1 ≤ 536870912)) then
 (bif (q57_0 ((decide (a3 ≤ (IntKind.wrap .i64 ((a1.getD (Int.toNat a2.2.2.1) (0, (0, (0, (0, ()))))).2.2.1 - (IntKind.wrap .i64 a2.2.1.2.2.1))))), 62, ())) then
 (bif (((decide (0 ≤ a2.2.2.1)) && (decide (a2.2.2.1 < ((a1.length : Nat) : Int)))) && (tt 1 (k57 ((decide (a2.2.2.1 < ((a1.length : Nat) : Int))), 61, ())))) then some (.inl 62) else none)
 else
 (bif ((k57 ((decide (a3 ≤ (IntKind.wrap .i64 ((a1.getD (Int.toNat a2.2.2.1) (0, (0, (0, (0, ()))))).2.2.1 - (IntKind.wrap .i64 a2.2.1.2.2.1))))), 62, ())) && (((decide (0 ≤ a2.2.2.1)) && (decide (a2.2.2.1 < ((a1.length : Nat) : Int)))) && (tt 1 (k57 ((decide (a2.2.2.1 < ((a1.length : Nat) : Int))), 61, ()))))) then some (.inr ()) else none))
 else
 (bif (q57_0 (false, 62, ())) then
 (bif (((decide (0 ≤ a2.2.2.1)) && (decide (a2.2.2.1 < ((a1.length : Nat) : Int)))) && (tt 1 (k57 ((decide (a2.2.2.1 < ((a1.length : Nat) : Int))), 61, ())))) then some (.inl 62) else none)
 else
 (bif ((k57 (false, 62, ())) && (((decide (0 ≤ a2.2.2.1)) && (decide (a2.2.2.1 < ((a1.length : Nat) : Int)))) && (tt 1 (k57 ((decide (a2.2.2.1 < ((a1.length : Nat) : Int))), 61, ()))))) then some (.inr ()) else none))))
 else
 (bif (q57_0 (false, 61, ())) then
 some (.inl 61)
 else
 (bif (decide (a2.2.1.2.2.1 ≤ 536870912)) then
 (bif (q57_0 ((decide (a3 ≤ (IntKind.wrap .i64 ((a1.getD (Int.toNat a2.2.2.1) (0, (0, (0, (0, ()))))).2.2.1 - (IntKind.wrap .i64 a2.2.1.2.2.1))))), 62, ())) then
 (bif (((decide (0 ≤ a2.2.2.1)) && (decide (a2.2.2.1 < ((a1.length : Nat) : Int)))) && (tt 1 (k57 (false, 61, ())))) then some (.inl 62) else none)
 else
 (bif ((k57 ((decide (a3 ≤ (IntKind.wrap .i64 ((a1.getD (Int.toNat a2.2.2.1) (0, (0, (0, (0, ()))))).2.2.1 - (IntKind.wrap .i64 a2.2.1.2.2.1))))), 62, ())) && (((decide (0 ≤ a2.2.2.1)) && (decide (a2.2.2.1 < ((a1.length : Nat) : Int)))) && (tt 1 (k57 (false, 61, ()))))) then some (.inr ()) else none))
 else
 (bif (q57_0 (false, 62, ())) then
 (bif (((decide (0 ≤ a2.2.2.1)) && (decide (a2.2.2.1 < ((a1.length : Nat) : Int)))) && (tt 1 (k57 (false, 61, ())))) then some (.inl 62) else none)
 else
 (bif ((k57 (false, 62, ())) && (((decide (0 ≤ a2.2.2.1)) && (decide (a2.2.2.1 < ((a1.length : Nat) : Int)))) && (tt 1 (k57 (false, 61, ()))))) then some (.inr ()) else none)))))
 else
 (bif (q57_0 (false, 61, ())) then
 some (.inl 61)
 else
 (bif (decide (a2.2.1.2.2.1 ≤ 536870912)) then
 (bif (q57_0 ((decide (a3 ≤ (IntKind.wrap .i64 (0 - (IntKind.wrap .i64 a2.2.1.2.2.1))))), 62, ())) then
 (bif (tt 1 (k57 (false, 61, ()))) then some (.inl 62) else none)
 else
 (bif ((k57 ((decide (a3 ≤ (IntKind.wrap .i64 (0 - (IntKind.wrap .i64 a2.2.1.2.2.1))))), 62, ())) && (tt 1 (k57 (false, 61, ())))) then some (.inr ()) else none))
 else
 (bif (q57_0 (false, 62, ())) then
 (bif (tt 1 (k57 (false, 61, ()))) then some (.inl 62) else none)
 else
 (bif ((k57 (false, 62, ())) && (tt 1 (k57 (false, 61, ())))) then some (.inr ()) else none)))))))
theorem t65 (v57 : Ya11 → Unit) (k57 : Ya11 → Bool) (q57_0 : Ya11 → Bool) (a0 : KD6) (a1 : Ya14) (a2 : Ya3) (a3 : Int) : fnP (CxP Try.Θ (kOf []) (lOf []) (pOf [(57, pm [.bool, (.int .i64)] .tnil 108 [(q57_0, (fun x => x.2.1))] v57 k57)])) 108 Try.f65 .tnil [⟨KT17, a0⟩, ⟨(.vsl KT21), a1⟩, ⟨KT11, a2⟩, ⟨(.int .i64), a3⟩] = S65 v57 k57 q57_0 a0 a1 a2 a3 := by kernel_rfl
noncomputable def S24  (a0 : KD0) : Option Ya32 :=
 (bif (decide (a0.1.2.1 = 0)) then some (a0.1.1, true, ()) else some (0, false, ()))
theorem t24  (a0 : KD0) : fnT (CxL Try.Θ (kOf []) (lOf [])) Try.f24 KT30 [⟨KT8, a0⟩] = S24  a0 := by kernel_rfl
noncomputable def S66 (v24 : (KD0 × Unit) → Ya32) (k24 : (KD0 × Unit) → Bool) (v57 : Ya11 → Unit) (k57 : Ya11 → Bool) (q57_0 : Ya11 → Bool) (a0 : KD0) (a1 : Int) : Option (Int ⊕ Int) :=
 (bif (q57_0 ((v24 (a0, ())).2.1, a1, ())) then
 (bif (tt 1 (k24 (a0, ()))) then some (.inl a1) else none)
 else
 (bif ((k57 ((v24 (a0, ())).2.1, a1, ())) && (tt 1 (k24 (a0, ())))) then some (.inr (IntKind.wrap .i64 (if 1073741824 < (v24 (a0, ())).1 then 1073741824 else (v24 (a0, ())).1))) else none))
theorem t66 (v24 : (KD0 × Unit) → Ya32) (k24 : (KD0 × Unit) → Bool) (v57 : Ya11 → Unit) (k57 : Ya11 → Bool) (q57_0 : Ya11 → Bool) (a0 : KD0) (a1 : Int) : fnP (CxP Try.Θ (kOf [(24, sm [KT8] KT30 v24 k24)]) (lOf []) (pOf [(57, pm [.bool, (.int .i64)] .tnil 108 [(q57_0, (fun x => x.2.1))] v57 k57)])) 108 Try.f66 (.int .i64) [⟨KT8, a0⟩, ⟨(.int .i64), a1⟩] = S66 v24 k24 v57 k57 q57_0 a0 a1 := by kernel_rfl
noncomputable def S67 (v57 : Ya11 → Unit) (k57 : Ya11 → Bool) (q57_0 : Ya11 → Bool) (a0 : KD6) (a1 : Int) : Option (Int ⊕ Unit) :=
 (bif (!(decide ((a0.2.1.getD (Int.toNat (IntKind.wrap .i64 (Int.tdiv a1 8))) sZ).1 = 2))) then
 (bif (q57_0 (true, 63, ())) then
 (bif ((tt 1 (decide (((Int.toNat (IntKind.wrap .i64 (Int.tdiv a1 8))) : Nat) < 64))) && (tt 1 ((decide (0 ≤ (IntKind.wrap .i64 (Int.tdiv a1 8)))) && (decide ((IntKind.wrap .i64 (Int.tdiv a1 8)) < 64))))) then some (.inl 63) else none)
 else
 (bif (decide ((a0.2.1.getD (Int.toNat (IntKind.wrap .i64 (Int.tdiv a1 8))) sZ).1 = 2)) then
 (bif (q57_0 (true, 60, ())) then
 (bif ((k57 (true, 63, ())) && ((tt 1 (decide (((Int.toNat (IntKind.wrap .i64 (Int.tdiv a1 8))) : Nat) < 64))) && (tt 1 ((decide (0 ≤ (IntKind.wrap .i64 (Int.tdiv a1 8)))) && (decide ((IntKind.wrap .i64 (Int.tdiv a1 8)) < 64)))))) then some (.inl 60) else none)
 else
 (bif ((k57 (true, 60, ())) && ((k57 (true, 63, ())) && ((tt 1 (decide (((Int.toNat (IntKind.wrap .i64 (Int.tdiv a1 8))) : Nat) < 64))) && (tt 1 ((decide (0 ≤ (IntKind.wrap .i64 (Int.tdiv a1 8)))) && (decide ((IntKind.wrap .i64 (Int.tdiv a1 8)) < 64))))))) then some (.inr ()) else none))
 else
 (bif (decide ((a0.2.1.getD (Int.toNat (IntKind.wrap .i64 (Int.tdiv a1 8))) sZ).1 = 1)) then
 (bif (q57_0 ((decide ((iand .i64 (ishr .i64 (a0.2.1.getD (Int.toNat (IntKind.wrap .i64 (Int.tdiv a1 8))) sZ).2.1 (iand .i64 a1 7)) 1) = 1)), 60, ())) then
 (bif ((decide (0 ≤ (iand .i64 a1 7))) && ((k57 (true, 63, ())) && ((tt 1 (decide (((Int.toNat (IntKind.wrap .i64 (Int.tdiv a1 8))) : Nat) < 64))) && (tt 1 ((decide (0 ≤ (IntKind.wrap .i64 (Int.tdiv a1 8)))) && (decide ((IntKind.wrap .i64 (Int.tdiv a1 8)) < 64))))))) then some (.inl 60) else none)
 else
 (bif ((k57 ((decide ((iand .i64 (ishr .i64 (a0.2.1.getD (Int.toNat (IntKind.wrap .i64 (Int.tdiv a1 8))) sZ).2.1 (iand .i64 a1 7)) 1) = 1)), 60, ())) && ((decide (0 ≤ (iand .i64 a1 7))) && ((k57 (true, 63, ())) && ((tt 1 (decide (((Int.toNat (IntKind.wrap .i64 (Int.tdiv a1 8))) : Nat) < 64))) && (tt 1 ((decide (0 ≤ (IntKind.wrap .i64 (Int.tdiv a1 8)))) && (decide ((IntKind.wrap .i64 (Int.tdiv a1 8)) < 64)))))))) then some (.inr ()) else none))
 else
 (bif (q57_0 (false, 60, ())) then
 (bif ((k57 (true, 63, ())) && ((tt 1 (decide (((Int.toNat (IntKind.wrap .i64 (Int.tdiv a1 8))) : Nat) < 64))) && (tt 1 ((decide (0 ≤ (IntKind.wrap .i64 (Int.tdiv a1 8)))) && (decide ((IntKind.wrap .i64 (Int.tdiv a1 8)) < 64)))))) then some (.inl 60) else none)
 else
 (bif ((k57 (false, 60, ())) && ((k57 (true, 63, ())) && ((tt 1 (decide (((Int.toNat (IntKind.wrap .i64 (Int.tdiv a1 8))) : Nat) < 64))) && (tt 1 ((decide (0 ≤ (IntKind.wrap .i64 (Int.tdiv a1 8)))) && (decide ((IntKind.wrap .i64 (Int.tdiv a1 8)) < 64))))))) then some (.inr ()) else none)))))
 else
 (bif (q57_0 ((decide ((a0.2.1.getD (Int.toNat (IntKind.wrap .i64 (Int.tdiv a1 8))) sZ).2.2.1.1 = 1)), 63, ())) then
 (bif ((tt 1 (decide (((Int.toNat (IntKind.wrap .i64 (Int.tdiv a1 8))) : Nat) < 64))) && (tt 1 ((decide (0 ≤ (IntKind.wrap .i64 (Int.tdiv a1 8)))) && (decide ((IntKind.wrap .i64 (Int.tdiv a1 8)) < 64))))) then some (.inl 63) else none)
 else
 (bif (decide ((a0.2.1.getD (Int.toNat (IntKind.wrap .i64 (Int.tdiv a1 8))) sZ).1 = 2)) then
 (bif (q57_0 (true, 60, ())) then
 (bif ((k57 ((decide ((a0.2.1.getD (Int.toNat (IntKind.wrap .i64 (Int.tdiv a1 8))) sZ).2.2.1.1 = 1)), 63, ())) && ((tt 1 (decide (((Int.toNat (IntKind.wrap .i64 (Int.tdiv a1 8))) : Nat) < 64))) && (tt 1 ((decide (0 ≤ (IntKind.wrap .i64 (Int.tdiv a1 8)))) && (decide ((IntKind.wrap .i64 (Int.tdiv a1 8)) < 64)))))) then some (.inl 60) else none)
 else
 (bif ((k57 (true, 60, ())) && ((k57 ((decide ((a0.2.1.getD (Int.toNat (IntKind.wrap .i64 (Int.tdiv a1 8))) sZ).2.2.1.1 = 1)), 63, ())) && ((tt 1 (decide (((Int.toNat (IntKind.wrap .i64 (Int.tdiv a1 8))) : Nat) < 64))) && (tt 1 ((decide (0 ≤ (IntKind.wrap .i64 (Int.tdiv a1 8)))) && (decide ((IntKind.wrap .i64 (Int.tdiv a1 8)) < 64))))))) then some (.inr ()) else none))
 else
 (bif (decide ((a0.2.1.getD (Int.toNat (IntKind.wrap .i64 (Int.tdiv a1 8))) sZ).1 = 1)) then
 (bif (q57_0 ((decide ((iand .i64 (ishr .i64 (a0.2.1.getD (Int.toNat (IntKind.wrap .i64 (Int.tdiv a1 8))) sZ).2.1 (iand .i64 a1 7)) 1) = 1)), 60, ())) then
 (bif ((decide (0 ≤ (iand .i64 a1 7))) && ((k57 ((decide ((a0.2.1.getD (Int.toNat (IntKind.wrap .i64 (Int.tdiv a1 8))) sZ).2.2.1.1 = 1)), 63, ())) && ((tt 1 (decide (((Int.toNat (IntKind.wrap .i64 (Int.tdiv a1 8))) : Nat) < 64))) && (tt 1 ((decide (0 ≤ (IntKind.wrap .i64 (Int.tdiv a1 8)))) && (decide ((IntKind.wrap .i64 (Int.tdiv a1 8)) < 64))))))) then some (.inl 60) else none)
 else
 (bif ((k57 ((decide ((iand .i64 (ishr .i64 (a0.2.1.getD (Int.toNat (IntKind.wrap .i64 (Int.tdiv a1 8))) sZ).2.1 (iand .i64 a1 7)) 1) = 1)), 60, ())) && ((decide (0 ≤ (iand .i64 a1 7))) && ((k57 ((decide ((a0.2.1.getD (Int.toNat (IntKind.wrap .i64 (Int.tdiv a1 8))) sZ).2.2.1.1 = 1)), 63, ())) && ((tt 1 (decide (((Int.toNat (IntKind.wrap .i64 (Int.tdiv a1 8))) : Nat) < 64))) && (tt 1 ((decide (0 ≤ (IntKind.wrap .i64 (Int.tdiv a1 8)))) && (decide ((IntKind.wrap .i64 (Int.tdiv a1 8)) < 64)))))))) then some (.inr ()) else none))
 else
 (bif (q57_0 (false, 60, ())) then
 (bif ((k57 ((decide ((a0.2.1.getD (Int.toNat (IntKind.wrap .i64 (Int.tdiv a1 8))) sZ).2.2.1.1 = 1)), 63, ())) && ((tt 1 (decide (((Int.toNat (IntKind.wrap .i64 (Int.tdiv a1 8))) : Nat) < 64))) && (tt 1 ((decide (0 ≤ (IntKind.wrap .i64 (Int.tdiv a1 8)))) && (decide ((IntKind.wrap .i64 (Int.tdiv a1 8)) < 64)))))) then some (.inl 60) else none)
 else
 (bif ((k57 (false, 60, ())) && ((k57 ((decide ((a0.2.1.getD (Int.toNat (IntKind.wrap .i64 (Int.tdiv a1 8))) sZ).2.2.1.1 = 1)), 63, ())) && ((tt 1 (decide (((Int.toNat (IntKind.wrap .i64 (Int.tdiv a1 8))) : Nat) < 64))) && (tt 1 ((decide (0 ≤ (IntKind.wrap .i64 (Int.tdiv a1 8)))) && (decide ((IntKind.wrap .i64 (Int.tdiv a1 8)) < 64))))))) then some (.inr ()) else none))))))
theorem t67 (v57 : Ya11 → Unit) (k57 : Ya11 → Bool) (q57_0 : Ya11 → Bool) (a0 : KD6) (a1 : Int) : fnP (CxP Try.Θ (kOf []) (lOf []) (pOf [(57, pm [.bool, (.int .i64)] .tnil 108 [(q57_0, (fun x => x.2.1))] v57 k57)])) 108 Try.f67 .tnil [⟨KT17, a0⟩, ⟨(.int .i64), a1⟩] = S67 v57 k57 q57_0 a0 a1 := by kernel_rfl
def hd52_0 : List It := [.sl 4 .bool, .pt 5 ⟨0, [0]⟩, .pt 10 ⟨2, [0]⟩, .sl 11 (.int .i64), .sl 40 (.int .i64), .sl 41 (.int .i64), .bl 0 KT17, .bl 2 (.int .i64)]
def ys52_0 : Ways := [((.exit 0), [.pt 10 ⟨2, [0]⟩, .bl 2 (.int .i64)]), ((.pan 108 60), [.pt 10 ⟨2, [0]⟩, .bl 2 (.int .i64)]), ((.pan 108 63), [.pt 10 ⟨2, [0]⟩, .bl 2 (.int .i64)])]
noncomputable def R52_0 (v57 : Ya11 → Unit) (k57 : Ya11 → Bool) (q57_0 : Ya11 → Bool) (v65 : Ya6 → Unit) (k65 : Ya6 → Bool) (q65_0 : Ya6 → Bool) (q65_1 : Ya6 → Bool) (v66 : Ya22 → Int) (k66 : Ya22 → Bool) (q66_0 : Ya22 → Bool) (v67 : Ya16 → Unit) (k67 : Ya16 → Bool) (q67_0 : Ya16 → Bool) (q67_1 : Ya16 → Bool) (lv0 : Ya10 → Ya18) (lk0 : Ya10 → Bool) (x0 : Bool) (x1 : Unit) (x2 : Unit) (x3 : Int) (x4 : Int) (x5 : Int) (x6 : KD6) (x7 : Int) : Option (Ya10 ⊕ Ya18) :=
 (bif (decide (x5 < x4)) then
 (bif (!x0) then
 (bif (q67_0 (x6, (IntKind.wrap .i64 (x3 + x5)), ())) then
 some (.inr (.inr (.inr ((), x7, ()))))
 else
 (bif (q67_1 (x6, (IntKind.wrap .i64 (x3 + x5)), ())) then
 some (.inr (.inr (.inl ((), x7, ()))))
 else
 (bif (tt 2 (k67 (x6, (IntKind.wrap .i64 (x3 + x5)), ()))) then some (.inl (x0, (), (), x3, x4, (IntKind.wrap .i64 (x5 + 1)), x6, x7, ())) else none)))
 else
 some (.inl (x0, (), (), x3, x4, (IntKind.wrap .i64 (x5 + 1)), x6, x7, ())))
 else
 some (.inr (.inl ((), x7, ()))))
theorem r52_0 (v57 : Ya11 → Unit) (k57 : Ya11 → Bool) (q57_0 : Ya11 → Bool) (v65 : Ya6 → Unit) (k65 : Ya6 → Bool) (q65_0 : Ya6 → Bool) (q65_1 : Ya6 → Bool) (v66 : Ya22 → Int) (k66 : Ya22 → Bool) (q66_0 : Ya22 → Bool) (v67 : Ya16 → Unit) (k67 : Ya16 → Bool) (q67_0 : Ya16 → Bool) (q67_1 : Ya16 → Bool) (lv0 : Ya10 → Ya18) (lk0 : Ya10 → Bool) (x0 : Bool) (x1 : Unit) (x2 : Unit) (x3 : Int) (x4 : Int) (x5 : Int) (x6 : KD6) (x7 : Int) : codeT (CxP Try.Θ (kOf []) (lOf [(0, orc 52 27 0 hd52_0 ys52_0 lv0 lk0)]) (pOf [(57, pm [.bool, (.int .i64)] .tnil 108 [(q57_0, (fun x => x.2.1))] v57 k57), (65, pm [KT17, (.vsl KT21), KT11, (.int .i64)] .tnil 108 [(q65_0, (fun _ => 62)), (q65_1, (fun _ => 61))] v65 k65), (66, pm [KT8, (.int .i64)] (.int .i64) 108 [(q66_0, (fun x => x.2.1))] v66 k66), (67, pm [KT17, (.int .i64)] .tnil 108 [(q67_0, (fun _ => 63)), (q67_1, (fun _ => 60))] v67 k67)])) (loopB 0 (bodyF Try.f52)) (mkS 52 27 hd52_0 (x0, x1, x2, x3, x4, x5, x6, x7, ())) (leafR 52 hd52_0 ys52_0) = R52_0 v57 k57 q57_0 v65 k65 q65_0 q65_1 v66 k66 q66_0 v67 k67 q67_0 q67_1 lv0 lk0 x0 x1 x2 x3 x4 x5 x6 x7 := by kernel_rfl
noncomputable def S52 (v57 : Ya11 → Unit) (k57 : Ya11 → Bool) (q57_0 : Ya11 → Bool) (v65 : Ya6 → Unit) (k65 : Ya6 → Bool) (q65_0 : Ya6 → Bool) (q65_1 : Ya6 → Bool) (v66 : Ya22 → Int) (k66 : Ya22 → Bool) (q66_0 : Ya22 → Bool) (v67 : Ya16 → Unit) (k67 : Ya16 → Bool) (q67_0 : Ya16 → Bool) (q67_1 : Ya16 → Bool) (lv0 : Ya10 → Ya18) (lk0 : Ya10 → Bool) (a0 : KD6) (a1 : Ya14) (a2 : Ya3) (a3 : Int) (a4 : Bool) : Option Int :=
 (bif (q57_0 ((!(decide (a2.1 = 0))), 60, ())) then
 some 60
 else
 (bif (q57_0 ((decide (a3 ≥ 1)), 62, ())) then
 (bif (tt 1 (k57 ((!(decide (a2.1 = 0))), 60, ()))) then some 62 else none)
 else
 (bif (!(decide (a2.1 = 3))) then
 (bif (q65_0 (a0, a1, a2, a3, ())) then
 (bif ((k57 ((decide (a3 ≥ 1)), 62, ())) && (tt 1 (k57 ((!(decide (a2.1 = 0))), 60, ())))) then some 62 else none)
 else
 (bif (q65_1 (a0, a1, a2, a3, ())) then
 (bif ((k57 ((decide (a3 ≥ 1)), 62, ())) && (tt 1 (k57 ((!(decide (a2.1 = 0))), 60, ())))) then some 61 else none)
 else
 (bif ((k65 (a0, a1, a2, a3, ())) && ((k57 ((decide (a3 ≥ 1)), 62, ())) && (tt 1 (k57 ((!(decide (a2.1 = 0))), 60, ()))))) then some 0 else none)))
 else
 (bif (q66_0 (a2.2.1, 61, ())) then
 (bif ((k57 ((decide (a3 ≥ 1)), 62, ())) && (tt 1 (k57 ((!(decide (a2.1 = 0))), 60, ())))) then some 61 else none)
 else
 (bif (decide ((v66 (a2.2.1, 61, ())) ≤ 512)) then
 (bif (q57_0 ((decide (a3 ≤ (IntKind.wrap .i64 (512 - (v66 (a2.2.1, 61, ())))))), 62, ())) then
 (bif ((k66 (a2.2.1, 61, ())) && ((k57 ((decide (a3 ≥ 1)), 62, ())) && (tt 1 (k57 ((!(decide (a2.1 = 0))), 60, ()))))) then some 62 else none)
 else
 (bif (isL (lv0 (a4, (), (), (v66 (a2.2.1, 61, ())), a3, 0, a0, 0, ()))) then
 (bif ((lk0 (a4, (), (), (v66 (a2.2.1, 61, ())), a3, 0, a0, 0, ())) && (tt 1 ((k57 ((decide (a3 ≤ (IntKind.wrap .i64 (512 - (v66 (a2.2.1, 61, ())))))), 62, ())) && ((k66 (a2.2.1, 61, ())) && ((k57 ((decide (a3 ≥ 1)), 62, ())) && (tt 1 (k57 ((!(decide (a2.1 = 0))), 60, ())))))))) then some 0 else none)
 else
 (bif (isL (getR ((Sum.inl ((), 0, ())) : ((Unit × Int × Unit) ⊕ (Unit × Int × Unit))) (lv0 (a4, (), (), (v66 (a2.2.1, 61, ())), a3, 0, a0, 0, ())))) then
 (bif ((lk0 (a4, (), (), (v66 (a2.2.1, 61, ())), a3, 0, a0, 0, ())) && (tt 1 ((k57 ((decide (a3 ≤ (IntKind.wrap .i64 (512 - (v66 (a2.2.1, 61, ())))))), 62, ())) && ((k66 (a2.2.1, 61, ())) && ((k57 ((decide (a3 ≥ 1)), 62, ())) && (tt 1 (k57 ((!(decide (a2.1 = 0))), 60, ())))))))) then some 60 else none)
 else
 (bif ((lk0 (a4, (), (), (v66 (a2.2.1, 61, ())), a3, 0, a0, 0, ())) && (tt 1 ((k57 ((decide (a3 ≤ (IntKind.wrap .i64 (512 - (v66 (a2.2.1, 61, ())))))), 62, ())) && ((k66 (a2.2.1, 61, ())) && ((k57 ((decide (a3 ≥ 1)), 62, ())) && (tt 1 (k57 ((!(decide (a2.1 = 0))), 60, ())))))))) then some 63 else none))))
 else
 (bif (q57_0 (false, 62, ())) then
 (bif ((k66 (a2.2.1, 61, ())) && ((k57 ((decide (a3 ≥ 1)), 62, ())) && (tt 1 (k57 ((!(decide (a2.1 = 0))), 60, ()))))) then some 62 else none)
 else
 (bif (isL (lv0 (a4, (), (), (v66 (a2.2.1, 61, ())), a3, 0, a0, 0, ()))) then
 (bif ((lk0 (a4, (), (), (v66 (a2.2.1, 61, ())), a3, 0, a0, 0, ())) && (tt 1 ((k57 (false, 62, ())) && ((k66 (a2.2.1, 61, ())) && ((k57 ((decide (a3 ≥ 1)), 62, ())) && (tt 1 (k57 ((!(decide (a2.1 = 0))), 60, ())))))))) then some 0 else none)
 else
 (bif (isL (getR ((Sum.inl ((), 0, ())) : ((Unit × Int × Unit) ⊕ (Unit × Int × Unit))) (lv0 (a4, (), (), (v66 (a2.2.1, 61, ())), a3, 0, a0, 0, ())))) then
 (bif ((lk0 (a4, (), (), (v66 (a2.2.1, 61, ())), a3, 0, a0, 0, ())) && (tt 1 ((k57 (false, 62, ())) && ((k66 (a2.2.1, 61, ())) && ((k57 ((decide (a3 ≥ 1)), 62, ())) && (tt 1 (k57 ((!(decide (a2.1 = 0))), 60, ())))))))) then some 60 else none)
 else
 (bif ((lk0 (a4, (), (), (v66 (a2.2.1, 61, ())), a3, 0, a0, 0, ())) && (tt 1 ((k57 (false, 62, ())) && ((k66 (a2.2.1, 61, ())) && ((k57 ((decide (a3 ≥ 1)), 62, ())) && (tt 1 (k57 ((!(decide (a2.1 = 0))), 60, ())))))))) then some 63 else none)))))))))
theorem t52 (v57 : Ya11 → Unit) (k57 : Ya11 → Bool) (q57_0 : Ya11 → Bool) (v65 : Ya6 → Unit) (k65 : Ya6 → Bool) (q65_0 : Ya6 → Bool) (q65_1 : Ya6 → Bool) (v66 : Ya22 → Int) (k66 : Ya22 → Bool) (q66_0 : Ya22 → Bool) (v67 : Ya16 → Unit) (k67 : Ya16 → Bool) (q67_0 : Ya16 → Bool) (q67_1 : Ya16 → Bool) (lv0 : Ya10 → Ya18) (lk0 : Ya10 → Bool) (a0 : KD6) (a1 : Ya14) (a2 : Ya3) (a3 : Int) (a4 : Bool) : fnD (CxP Try.Θ (kOf []) (lOf [(0, orc 52 27 0 hd52_0 ys52_0 lv0 lk0)]) (pOf [(57, pm [.bool, (.int .i64)] .tnil 108 [(q57_0, (fun x => x.2.1))] v57 k57), (65, pm [KT17, (.vsl KT21), KT11, (.int .i64)] .tnil 108 [(q65_0, (fun _ => 62)), (q65_1, (fun _ => 61))] v65 k65), (66, pm [KT8, (.int .i64)] (.int .i64) 108 [(q66_0, (fun x => x.2.1))] v66 k66), (67, pm [KT17, (.int .i64)] .tnil 108 [(q67_0, (fun _ => 63)), (q67_1, (fun _ => 60))] v67 k67)])) 56 (dfTail Try.f56.body) 108 3 Try.f52 (.int .i64) [⟨KT17, a0⟩, ⟨(.vsl KT21), a1⟩, ⟨KT11, a2⟩, ⟨(.int .i64), a3⟩, ⟨.bool, a4⟩] = S52 v57 k57 q57_0 v65 k65 q65_0 q65_1 v66 k66 q66_0 v67 k67 q67_0 q67_1 lv0 lk0 a0 a1 a2 a3 a4 := by kernel_rfl
noncomputable def S53 (v24 : (KD0 × Unit) → Ya32) (k24 : (KD0 × Unit) → Bool) (a0 : Ya3) (a1 : Int) : Option Bool :=
 (bif (decide (a0.1 = a1)) then
 (bif (v24 (a0.2.1, ())).2.1 then
 (bif (tt 1 (k24 (a0.2.1, ()))) then some (decide ((v24 (a0.2.1, ())).1 = 0)) else none)
 else
 (bif (tt 1 (k24 (a0.2.1, ()))) then some false else none))
 else
 (bif (tt 1 (k24 (a0.2.1, ()))) then some false else none))
theorem t53 (v24 : (KD0 × Unit) → Ya32) (k24 : (KD0 × Unit) → Bool) (a0 : Ya3) (a1 : Int) : fnT (CxL Try.Θ (kOf [(24, sm [KT8] KT30 v24 k24)]) (lOf [])) Try.f53 .bool [⟨KT11, a0⟩, ⟨(.int .i64), a1⟩] = S53 v24 k24 a0 a1 := by kernel_rfl
noncomputable def S37 (v24 : (KD0 × Unit) → Ya32) (k24 : (KD0 × Unit) → Bool) (v25 : Ya21 → Bool) (k25 : Ya21 → Bool) (v51 : (KD6 × KD26) → (Ya3 × Unit) → KD27) (k51 : (KD6 × KD26) → (Ya3 × Unit) → Bool) (v52 : Ya29 → Int) (k52 : Ya29 → Bool) (v53 : (Ya3 × Int × Unit) → Bool) (k53 : (Ya3 × Int × Unit) → Bool) (x : (KD6 × KD26)) (a0 : Int) (a1 : Int) : Option Int :=
 (bif (decide (a1 = 0)) then
 (bif (v51 x ((x.1.1.getD (Int.toNat a0) rZ), ())).2.1 then
 (bif (!(v25 (x.2.2.1.2.1, (v51 x ((x.1.1.getD (Int.toNat a0) rZ), ())).1.1, ()))) then
 (bif ((k25 (x.2.2.1.2.1, (v51 x ((x.1.1.getD (Int.toNat a0) rZ), ())).1.1, ())) && ((tt 1 (k51 x ((x.1.1.getD (Int.toNat a0) rZ), ()))) && ((tt 1 (k51 x ((x.1.1.getD 1 rZ), ()))) && ((tt 1 (decide (((Int.toNat a0) : Nat) < 11))) && (tt 1 ((decide (0 ≤ a0)) && (decide (a0 < 11)))))))) then some 61 else none)
 else
 (bif ((k25 (x.2.2.1.2.1, (v51 x ((x.1.1.getD (Int.toNat a0) rZ), ())).1.1, ())) && ((tt 1 (k51 x ((x.1.1.getD (Int.toNat a0) rZ), ()))) && ((tt 1 (k51 x ((x.1.1.getD 1 rZ), ()))) && ((tt 1 (decide (((Int.toNat a0) : Nat) < 11))) && (tt 1 ((decide (0 ≤ a0)) && (decide (a0 < 11)))))))) then some 0 else none))
 else
 (bif ((tt 1 (k51 x ((x.1.1.getD (Int.toNat a0) rZ), ()))) && ((tt 1 (k51 x ((x.1.1.getD 1 rZ), ()))) && ((tt 1 (decide (((Int.toNat a0) : Nat) < 11))) && (tt 1 ((decide (0 ≤ a0)) && (decide (a0 < 11))))))) then some 61 else none))
 else
 (bif (decide (a1 = 1)) then
 (bif ((k52 (x.1, x.2.1, (x.1.1.getD (Int.toNat a0) rZ), (v51 x ((x.1.1.getD 1 rZ), ())).1.2.1, false, ())) && ((tt 1 (k51 x ((x.1.1.getD 1 rZ), ()))) && ((tt 1 (decide (((Int.toNat a0) : Nat) < 11))) && (tt 1 ((decide (0 ≤ a0)) && (decide (a0 < 11))))))) then some (v52 (x.1, x.2.1, (x.1.1.getD (Int.toNat a0) rZ), (v51 x ((x.1.1.getD 1 rZ), ())).1.2.1, false, ())) else none)
 else
 (bif (decide (a1 = 2)) then
 (bif ((k52 (x.1, x.2.1, (x.1.1.getD (Int.toNat a0) rZ), (v51 x ((x.1.1.getD 1 rZ), ())).1.2.2.1, false, ())) && ((tt 1 (k51 x ((x.1.1.getD 1 rZ), ()))) && ((tt 1 (decide (((Int.toNat a0) : Nat) < 11))) && (tt 1 ((decide (0 ≤ a0)) && (decide (a0 < 11))))))) then some (v52 (x.1, x.2.1, (x.1.1.getD (Int.toNat a0) rZ), (v51 x ((x.1.1.getD 1 rZ), ())).1.2.2.1, false, ())) else none)
 else
 (bif (decide (a1 = 3)) then
 (bif ((k52 (x.1, x.2.1, (x.1.1.getD (Int.toNat a0) rZ), (v51 x ((x.1.1.getD 1 rZ), ())).1.2.2.1, true, ())) && ((tt 1 (k51 x ((x.1.1.getD 1 rZ), ()))) && ((tt 1 (decide (((Int.toNat a0) : Nat) < 11))) && (tt 1 ((decide (0 ≤ a0)) && (decide (a0 < 11))))))) then some (v52 (x.1, x.2.1, (x.1.1.getD (Int.toNat a0) rZ), (v51 x ((x.1.1.getD 1 rZ), ())).1.2.2.1, true, ())) else none)
 else
 (bif (decide (a1 = 4)) then
 (bif (!(decide ((x.1.1.getD (Int.toNat a0) rZ).1 = 1))) then
 (bif ((tt 1 (k51 x ((x.1.1.getD 1 rZ), ()))) && ((tt 1 (decide (((Int.toNat a0) : Nat) < 11))) && (tt 1 ((decide (0 ≤ a0)) && (decide (a0 < 11)))))) then some 63 else none)
 else
 (bif ((tt 1 (k51 x ((x.1.1.getD 1 rZ), ()))) && ((tt 1 (decide (((Int.toNat a0) : Nat) < 11))) && (tt 1 ((decide (0 ≤ a0)) && (decide (a0 < 11)))))) then some 0 else none))
 else
 (bif (decide (a1 = 5)) then
 (bif (!(v53 ((x.1.1.getD (Int.toNat a0) rZ), 2, ()))) then
 (bif ((k53 ((x.1.1.getD (Int.toNat a0) rZ), 2, ())) && ((tt 1 (k51 x ((x.1.1.getD 1 rZ), ()))) && ((tt 1 (decide (((Int.toNat a0) : Nat) < 11))) && (tt 1 ((decide (0 ≤ a0)) && (decide (a0 < 11))))))) then some 61 else none)
 else
 (bif ((k53 ((x.1.1.getD (Int.toNat a0) rZ), 2, ())) && ((tt 1 (k51 x ((x.1.1.getD 1 rZ), ()))) && ((tt 1 (decide (((Int.toNat a0) : Nat) < 11))) && (tt 1 ((decide (0 ≤ a0)) && (decide (a0 < 11))))))) then some 0 else none))
 else
 (bif (decide (a1 = 6)) then
 (bif (!(decide ((x.1.1.getD (Int.toNat a0) rZ).1 = 1))) then
 (bif ((tt 1 (k51 x ((x.1.1.getD 1 rZ), ()))) && ((tt 1 (decide (((Int.toNat a0) : Nat) < 11))) && (tt 1 ((decide (0 ≤ a0)) && (decide (a0 < 11)))))) then some 63 else none)
 else
 (bif (v24 ((x.1.1.getD (Int.toNat a0) rZ).2.1, ())).2.1 then
 (bif (decide ((v24 ((x.1.1.getD (Int.toNat a0) rZ).2.1, ())).1 ≥ 1)) then
 (bif (!(decide ((v24 ((x.1.1.getD (Int.toNat a0) rZ).2.1, ())).1 ≤ 4096))) then
 (bif ((k24 ((x.1.1.getD (Int.toNat a0) rZ).2.1, ())) && ((tt 1 (k51 x ((x.1.1.getD 1 rZ), ()))) && ((tt 1 (decide (((Int.toNat a0) : Nat) < 11))) && (tt 1 ((decide (0 ≤ a0)) && (decide (a0 < 11))))))) then some 62 else none)
 else
 (bif ((k24 ((x.1.1.getD (Int.toNat a0) rZ).2.1, ())) && ((tt 1 (k51 x ((x.1.1.getD 1 rZ), ()))) && ((tt 1 (decide (((Int.toNat a0) : Nat) < 11))) && (tt 1 ((decide (0 ≤ a0)) && (decide (a0 < 11))))))) then some 0 else none))
 else
 (bif ((k24 ((x.1.1.getD (Int.toNat a0) rZ).2.1, ())) && ((tt 1 (k51 x ((x.1.1.getD 1 rZ), ()))) && ((tt 1 (decide (((Int.toNat a0) : Nat) < 11))) && (tt 1 ((decide (0 ≤ a0)) && (decide (a0 < 11))))))) then some 62 else none))
 else
 (bif ((k24 ((x.1.1.getD (Int.toNat a0) rZ).2.1, ())) && ((tt 1 (k51 x ((x.1.1.getD 1 rZ), ()))) && ((tt 1 (decide (((Int.toNat a0) : Nat) < 11))) && (tt 1 ((decide (0 ≤ a0)) && (decide (a0 < 11))))))) then some 62 else none)))
 else
 (bif (decide (a1 = 7)) then
 (bif ((k52 (x.1, x.2.1, (x.1.1.getD (Int.toNat a0) rZ), (IntKind.wrap .i64 (v24 ((x.1.1.getD (Int.toNat (IntKind.wrap .i64 (a0 + 1))) rZ).2.1, ())).1), false, ())) && ((k24 ((x.1.1.getD (Int.toNat (IntKind.wrap .i64 (a0 + 1))) rZ).2.1, ())) && ((tt 1 (decide (((Int.toNat (IntKind.wrap .i64 (a0 + 1))) : Nat) < 11))) && (((decide (0 ≤ (IntKind.wrap .i64 (a0 + 1)))) && (decide ((IntKind.wrap .i64 (a0 + 1)) < 11))) && ((tt 1 (k51 x ((x.1.1.getD 1 rZ), ()))) && ((tt 1 (decide (((Int.toNat a0) : Nat) < 11))) && (tt 1 ((decide (0 ≤ a0)) && (decide (a0 < 11)))))))))) then some (v52 (x.1, x.2.1, (x.1.1.getD (Int.toNat a0) rZ), (IntKind.wrap .i64 (v24 ((x.1.1.getD (Int.toNat (IntKind.wrap .i64 (a0 + 1))) rZ).2.1, ())).1), false, ())) else none)
 else
 (bif (decide (a1 = 8)) then
 (bif (!(v53 ((x.1.1.getD (Int.toNat a0) rZ), 9, ()))) then
 (bif ((k53 ((x.1.1.getD (Int.toNat a0) rZ), 9, ())) && ((tt 1 (k51 x ((x.1.1.getD 1 rZ), ()))) && ((tt 1 (decide (((Int.toNat a0) : Nat) < 11))) && (tt 1 ((decide (0 ≤ a0)) && (decide (a0 < 11))))))) then some 61 else none)
 else
 (bif ((k53 ((x.1.1.getD (Int.toNat a0) rZ), 9, ())) && ((tt 1 (k51 x ((x.1.1.getD 1 rZ), ()))) && ((tt 1 (decide (((Int.toNat a0) : Nat) < 11))) && (tt 1 ((decide (0 ≤ a0)) && (decide (a0 < 11))))))) then some 0 else none))
 else
 (bif ((tt 1 (k51 x ((x.1.1.getD 1 rZ), ()))) && ((tt 1 (decide (((Int.toNat a0) : Nat) < 11))) && (tt 1 ((decide (0 ≤ a0)) && (decide (a0 < 11)))))) then some 0 else none))))))))))
theorem t37 (v24 : (KD0 × Unit) → Ya32) (k24 : (KD0 × Unit) → Bool) (v25 : Ya21 → Bool) (k25 : Ya21 → Bool) (v51 : (KD6 × KD26) → (Ya3 × Unit) → KD27) (k51 : (KD6 × KD26) → (Ya3 × Unit) → Bool) (v52 : Ya29 → Int) (k52 : Ya29 → Bool) (v53 : (Ya3 × Int × Unit) → Bool) (k53 : (Ya3 × Int × Unit) → Bool) (x : (KD6 × KD26)) (a0 : Int) (a1 : Int) : fnR (CxL Try.Θ (kOf [(24, sm [KT8] KT30 v24 k24), (25, sm [(.vsl (.int .i64)), (.int .i64)] .bool v25 k25), (51, smR OD0 [0] [KT11] KT29 v51 k51), (52, sm [KT17, (.vsl KT21), KT11, (.int .i64), .bool] (.int .i64) v52 k52), (53, sm [KT11, (.int .i64)] .bool v53 k53)]) (lOf [])) Try.f37 OD0 [0] 1 (.int .i64) [⟨(.int .i64), a0⟩, ⟨(.int .i64), a1⟩] x = S37 v24 k24 v25 k25 v51 k51 v52 k52 v53 k53 x a0 a1 := by kernel_rfl
def hd17_0 : List It := [.pt 0 ⟨0, [0]⟩, .ow 3 2 (.int .i64), .sl 16 (.int .i64), .sl 17 (.int .i64), .rb 0 (.pair KT17 KT28)]
def ys17_0 : Ways := [((.exit 0), [.pt 0 ⟨0, [0]⟩, .ow 3 2 (.int .i64), .rb 0 (.pair KT17 KT28)])]
def hd17_2 : List It := [.pt 0 ⟨0, [0]⟩, .ow 49 26 (.int .i64), .sl 50 (.int .i64), .sl 51 (.int .i64), .rb 0 (.pair KT17 KT28)]
def ys17_2 : Ways := [((.exit 2), []), (.ret, [.sl 2 (.int .i64)])]
noncomputable def R17_0 (v37 : (KD6 × KD26) → Ya5 → Int) (k37 : (KD6 × KD26) → Ya5 → Bool) (lv0 : Ya2 → Ya23) (lk0 : Ya2 → Bool) (lv2 : Ya2 → Ya25) (lk2 : Ya2 → Bool) (x0 : Unit) (x1 : (List Int)) (x2 : Int) (x3 : Int) (x4 : (KD6 × KD26)) : Option (Ya2 ⊕ Ya23) :=
 (bif (decide (x3 < x2)) then
 (bif (decide (x3 > 0)) then
 (bif (decide ((x4.2.2.1.1.getD (Int.toNat (IntKind.wrap .i64 (x3 - 1))) 0) = 7)) then
 (bif ((tt 1 (decide (((0 + x1.length) : Nat) ≤ x1.length))) && (tt 1 ((tt 1 (decide (((0 + (Int.toNat x3)) : Nat) < x1.length))) && (((decide (0 ≤ x3)) && (decide (x3 < ((x1.length : Nat) : Int)))) && ((tt 1 (decide (((0 + (Int.toNat (IntKind.wrap .i64 (x3 - 1)))) : Nat) < x1.length))) && (((decide (0 ≤ (IntKind.wrap .i64 (x3 - 1)))) && (decide ((IntKind.wrap .i64 (x3 - 1)) < ((x1.length : Nat) : Int)))) && (((decide (0 ≤ (IntKind.wrap .i64 (x3 - 1)))) && (decide ((IntKind.wrap .i64 (x3 - 1)) < ((x4.2.2.1.1.length : Nat) : Int)))) && ((tt 1 (decide (((0 + (Int.toNat x3)) : Nat) < x1.length))) && (tt 1 ((decide (0 ≤ x3)) && (decide (x3 < ((x1.length : Nat) : Int))))))))))))) then some (.inl ((), (sec 0 (lset 0 (lset 0 (lset 0 x1 (0 + (Int.toNat x3)) x3) (0 + (Int.toNat (IntKind.wrap .i64 (x3 - 1)))) x3) (0 + (Int.toNat x3)) (IntKind.wrap .i64 (x3 - 1))) 0 x1.length), x2, (IntKind.wrap .i64 (x3 + 1)), x4, ())) else none)
 else
 (bif ((tt 1 (decide (((0 + x1.length) : Nat) ≤ x1.length))) && (tt 1 (((decide (0 ≤ (IntKind.wrap .i64 (x3 - 1)))) && (decide ((IntKind.wrap .i64 (x3 - 1)) < ((x4.2.2.1.1.length : Nat) : Int)))) && ((tt 1 (decide (((0 + (Int.toNat x3)) : Nat) < x1.length))) && (tt 1 ((decide (0 ≤ x3)) && (decide (x3 < ((x1.length : Nat) : Int))))))))) then some (.inl ((), (sec 0 (lset 0 x1 (0 + (Int.toNat x3)) x3) 0 x1.length), x2, (IntKind.wrap .i64 (x3 + 1)), x4, ())) else none))
 else
 (bif ((tt 1 (decide (((0 + x1.length) : Nat) ≤ x1.length))) && (tt 1 ((tt 1 (decide (((0 + (Int.toNat x3)) : Nat) < x1.length))) && (tt 1 ((decide (0 ≤ x3)) && (decide (x3 < ((x1.length : Nat) : Int)))))))) then some (.inl ((), (sec 0 (lset 0 x1 (0 + (Int.toNat x3)) x3) 0 x1.length), x2, (IntKind.wrap .i64 (x3 + 1)), x4, ())) else none))
 else
 (bif (tt 2 (decide (((0 + x1.length) : Nat) ≤ x1.length))) then some (.inr ((), (sec 0 x1 0 x1.length), x4, ())) else none))
theorem r17_0 (v37 : (KD6 × KD26) → Ya5 → Int) (k37 : (KD6 × KD26) → Ya5 → Bool) (lv0 : Ya2 → Ya23) (lk0 : Ya2 → Bool) (lv2 : Ya2 → Ya25) (lk2 : Ya2 → Bool) (x0 : Unit) (x1 : (List Int)) (x2 : Int) (x3 : Int) (x4 : (KD6 × KD26)) : codeT (CxL Try.Θ (kOf [(37, smR OD0 [0] [(.int .i64), (.int .i64)] (.int .i64) v37 k37)]) (lOf [(0, orc 81 26 0 hd17_0 ys17_0 lv0 lk0), (2, orc 81 50 2 hd17_2 ys17_2 lv2 lk2)])) (loopB 0 (bodyF Try.f17)) (mkS 81 26 hd17_0 (x0, x1, x2, x3, x4, ())) (leafR 81 hd17_0 ys17_0) = R17_0 v37 k37 lv0 lk0 lv2 lk2 x0 x1 x2 x3 x4 := by kernel_rfl
noncomputable def R17_2 (v37 : (KD6 × KD26) → Ya5 → Int) (k37 : (KD6 × KD26) → Ya5 → Bool) (lv0 : Ya2 → Ya23) (lk0 : Ya2 → Bool) (lv2 : Ya2 → Ya25) (lk2 : Ya2 → Bool) (x0 : Unit) (x1 : (List Int)) (x2 : Int) (x3 : Int) (x4 : (KD6 × KD26)) : Option (Ya2 ⊕ Ya25) :=
 (bif (decide (x3 < x2)) then
 (bif (decide ((x4.1.1.getD (Int.toNat (IntKind.wrap .i64 ((x1.getD (0 + (Int.toNat x3)) 0) + 1))) rZ).1 = 0)) then
 (bif (tt 1 ((tt 1 (decide (((Int.toNat (IntKind.wrap .i64 ((x1.getD (0 + (Int.toNat x3)) 0) + 1))) : Nat) < 11))) && (((decide (0 ≤ (IntKind.wrap .i64 ((x1.getD (0 + (Int.toNat x3)) 0) + 1)))) && (decide ((IntKind.wrap .i64 ((x1.getD (0 + (Int.toNat x3)) 0) + 1)) < 11))) && ((tt 1 (decide (((0 + (Int.toNat x3)) : Nat) < x1.length))) && (tt 1 ((decide (0 ≤ x3)) && (decide (x3 < ((x1.length : Nat) : Int))))))))) then some (.inr (.inr (60, ()))) else none)
 else
 (bif (!(decide ((v37 x4 ((IntKind.wrap .i64 ((x1.getD (0 + (Int.toNat x3)) 0) + 1)), (x4.2.2.1.1.getD (Int.toNat (x1.getD (0 + (Int.toNat x3)) 0)) 0), ())) = 0))) then
 (bif (tt 1 ((tt 1 (k37 x4 ((IntKind.wrap .i64 ((x1.getD (0 + (Int.toNat x3)) 0) + 1)), (x4.2.2.1.1.getD (Int.toNat (x1.getD (0 + (Int.toNat x3)) 0)) 0), ()))) && (((decide (0 ≤ (x1.getD (0 + (Int.toNat x3)) 0))) && (decide ((x1.getD (0 + (Int.toNat x3)) 0) < ((x4.2.2.1.1.length : Nat) : Int)))) && ((tt 1 (decide (((Int.toNat (IntKind.wrap .i64 ((x1.getD (0 + (Int.toNat x3)) 0) + 1))) : Nat) < 11))) && (((decide (0 ≤ (IntKind.wrap .i64 ((x1.getD (0 + (Int.toNat x3)) 0) + 1)))) && (decide ((IntKind.wrap .i64 ((x1.getD (0 + (Int.toNat x3)) 0) + 1)) < 11))) && ((tt 1 (decide (((0 + (Int.toNat x3)) : Nat) < x1.length))) && (tt 1 ((decide (0 ≤ x3)) && (decide (x3 < ((x1.length : Nat) : Int))))))))))) then some (.inr (.inr ((v37 x4 ((IntKind.wrap .i64 ((x1.getD (0 + (Int.toNat x3)) 0) + 1)), (x4.2.2.1.1.getD (Int.toNat (x1.getD (0 + (Int.toNat x3)) 0)) 0), ())), ()))) else none)
 else
 (bif ((tt 1 (decide (((0 + x1.length) : Nat) ≤ x1.length))) && (tt 1 ((tt 1 (k37 x4 ((IntKind.wrap .i64 ((x1.getD (0 + (Int.toNat x3)) 0) + 1)), (x4.2.2.1.1.getD (Int.toNat (x1.getD (0 + (Int.toNat x3)) 0)) 0), ()))) && (((decide (0 ≤ (x1.getD (0 + (Int.toNat x3)) 0))) && (decide ((x1.getD (0 + (Int.toNat x3)) 0) < ((x4.2.2.1.1.length : Nat) : Int)))) && ((tt 1 (decide (((Int.toNat (IntKind.wrap .i64 ((x1.getD (0 + (Int.toNat x3)) 0) + 1))) : Nat) < 11))) && (((decide (0 ≤ (IntKind.wrap .i64 ((x1.getD (0 + (Int.toNat x3)) 0) + 1)))) && (decide ((IntKind.wrap .i64 ((x1.getD (0 + (Int.toNat x3)) 0) + 1)) < 11))) && ((tt 1 (decide (((0 + (Int.toNat x3)) : Nat) < x1.length))) && (tt 1 ((decide (0 ≤ x3)) && (decide (x3 < ((x1.length : Nat) : Int)))))))))))) then some (.inl ((), (sec 0 x1 0 x1.length), x2, (IntKind.wrap .i64 (x3 + 1)), x4, ())) else none)))
 else
 some (.inr (.inl (()))))
theorem r17_2 (v37 : (KD6 × KD26) → Ya5 → Int) (k37 : (KD6 × KD26) → Ya5 → Bool) (lv0 : Ya2 → Ya23) (lk0 : Ya2 → Bool) (lv2 : Ya2 → Ya25) (lk2 : Ya2 → Bool) (x0 : Unit) (x1 : (List Int)) (x2 : Int) (x3 : Int) (x4 : (KD6 × KD26)) : codeT (CxL Try.Θ (kOf [(37, smR OD0 [0] [(.int .i64), (.int .i64)] (.int .i64) v37 k37)]) (lOf [(0, orc 81 26 0 hd17_0 ys17_0 lv0 lk0), (2, orc 81 50 2 hd17_2 ys17_2 lv2 lk2)])) (loopB 2 (bodyF Try.f17)) (mkS 81 50 hd17_2 (x0, x1, x2, x3, x4, ())) (leafR 81 hd17_2 ys17_2) = R17_2 v37 k37 lv0 lk0 lv2 lk2 x0 x1 x2 x3 x4 := by kernel_rfl
noncomputable def S17 (v37 : (KD6 × KD26) → Ya5 → Int) (k37 : (KD6 × KD26) → Ya5 → Bool) (lv0 : Ya2 → Ya23) (lk0 : Ya2 → Bool) (lv2 : Ya2 → Ya25) (lk2 : Ya2 → Bool) (x : (KD6 × KD26)) : Option Int :=
 (bif (isL (lv2 ((), (sec 0 (lv0 ((), (sec 0 ([] : List Int) 0 (Int.toNat ((x.2.2.1.1.length : Nat) : Int))), (((Int.toNat ((x.2.2.1.1.length : Nat) : Int)) : Nat) : Int), 0, x, ())).2.1 0 (lv0 ((), (sec 0 ([] : List Int) 0 (Int.toNat ((x.2.2.1.1.length : Nat) : Int))), (((Int.toNat ((x.2.2.1.1.length : Nat) : Int)) : Nat) : Int), 0, x, ())).2.1.length), (((lv0 ((), (sec 0 ([] : List Int) 0 (Int.toNat ((x.2.2.1.1.length : Nat) : Int))), (((Int.toNat ((x.2.2.1.1.length : Nat) : Int)) : Nat) : Int), 0, x, ())).2.1.length : Nat) : Int), 0, (lv0 ((), (sec 0 ([] : List Int) 0 (Int.toNat ((x.2.2.1.1.length : Nat) : Int))), (((Int.toNat ((x.2.2.1.1.length : Nat) : Int)) : Nat) : Int), 0, x, ())).2.2.1, ()))) then
 (bif ((lk2 ((), (sec 0 (lv0 ((), (sec 0 ([] : List Int) 0 (Int.toNat ((x.2.2.1.1.length : Nat) : Int))), (((Int.toNat ((x.2.2.1.1.length : Nat) : Int)) : Nat) : Int), 0, x, ())).2.1 0 (lv0 ((), (sec 0 ([] : List Int) 0 (Int.toNat ((x.2.2.1.1.length : Nat) : Int))), (((Int.toNat ((x.2.2.1.1.length : Nat) : Int)) : Nat) : Int), 0, x, ())).2.1.length), (((lv0 ((), (sec 0 ([] : List Int) 0 (Int.toNat ((x.2.2.1.1.length : Nat) : Int))), (((Int.toNat ((x.2.2.1.1.length : Nat) : Int)) : Nat) : Int), 0, x, ())).2.1.length : Nat) : Int), 0, (lv0 ((), (sec 0 ([] : List Int) 0 (Int.toNat ((x.2.2.1.1.length : Nat) : Int))), (((Int.toNat ((x.2.2.1.1.length : Nat) : Int)) : Nat) : Int), 0, x, ())).2.2.1, ())) && ((tt 1 (decide (((0 + (lv0 ((), (sec 0 ([] : List Int) 0 (Int.toNat ((x.2.2.1.1.length : Nat) : Int))), (((Int.toNat ((x.2.2.1.1.length : Nat) : Int)) : Nat) : Int), 0, x, ())).2.1.length) : Nat) ≤ (lv0 ((), (sec 0 ([] : List Int) 0 (Int.toNat ((x.2.2.1.1.length : Nat) : Int))), (((Int.toNat ((x.2.2.1.1.length : Nat) : Int)) : Nat) : Int), 0, x, ())).2.1.length))) && (tt 1 ((lk0 ((), (sec 0 ([] : List Int) 0 (Int.toNat ((x.2.2.1.1.length : Nat) : Int))), (((Int.toNat ((x.2.2.1.1.length : Nat) : Int)) : Nat) : Int), 0, x, ())) && (((decide (((0 + (Int.toNat ((x.2.2.1.1.length : Nat) : Int))) : Nat) ≤ (Int.toNat ((x.2.2.1.1.length : Nat) : Int)))) && (tt 1 (decide (((0 + (Int.toNat ((x.2.2.1.1.length : Nat) : Int))) : Nat) ≤ (Int.toNat ((x.2.2.1.1.length : Nat) : Int)))))) && (tt 2 ((decide (0 ≤ ((x.2.2.1.1.length : Nat) : Int))) && ((decide (((x.2.2.1.1.length : Nat) : Int) ≤ ((x.2.2.1.1.length : Nat) : Int))) && ((decide (8 * ((x.2.2.1.1.length : Nat) : Int) ≤ 281474976710656)) && (decide (((x.2.2.1.1.length : Nat) : Int) ≤ 281474976710656))))))))))) then some 0 else none)
 else
 (bif ((lk2 ((), (sec 0 (lv0 ((), (sec 0 ([] : List Int) 0 (Int.toNat ((x.2.2.1.1.length : Nat) : Int))), (((Int.toNat ((x.2.2.1.1.length : Nat) : Int)) : Nat) : Int), 0, x, ())).2.1 0 (lv0 ((), (sec 0 ([] : List Int) 0 (Int.toNat ((x.2.2.1.1.length : Nat) : Int))), (((Int.toNat ((x.2.2.1.1.length : Nat) : Int)) : Nat) : Int), 0, x, ())).2.1.length), (((lv0 ((), (sec 0 ([] : List Int) 0 (Int.toNat ((x.2.2.1.1.length : Nat) : Int))), (((Int.toNat ((x.2.2.1.1.length : Nat) : Int)) : Nat) : Int), 0, x, ())).2.1.length : Nat) : Int), 0, (lv0 ((), (sec 0 ([] : List Int) 0 (Int.toNat ((x.2.2.1.1.length : Nat) : Int))), (((Int.toNat ((x.2.2.1.1.length : Nat) : Int)) : Nat) : Int), 0, x, ())).2.2.1, ())) && ((tt 1 (decide (((0 + (lv0 ((), (sec 0 ([] : List Int) 0 (Int.toNat ((x.2.2.1.1.length : Nat) : Int))), (((Int.toNat ((x.2.2.1.1.length : Nat) : Int)) : Nat) : Int), 0, x, ())).2.1.length) : Nat) ≤ (lv0 ((), (sec 0 ([] : List Int) 0 (Int.toNat ((x.2.2.1.1.length : Nat) : Int))), (((Int.toNat ((x.2.2.1.1.length : Nat) : Int)) : Nat) : Int), 0, x, ())).2.1.length))) && (tt 1 ((lk0 ((), (sec 0 ([] : List Int) 0 (Int.toNat ((x.2.2.1.1.length : Nat) : Int))), (((Int.toNat ((x.2.2.1.1.length : Nat) : Int)) : Nat) : Int), 0, x, ())) && (((decide (((0 + (Int.toNat ((x.2.2.1.1.length : Nat) : Int))) : Nat) ≤ (Int.toNat ((x.2.2.1.1.length : Nat) : Int)))) && (tt 1 (decide (((0 + (Int.toNat ((x.2.2.1.1.length : Nat) : Int))) : Nat) ≤ (Int.toNat ((x.2.2.1.1.length : Nat) : Int)))))) && (tt 2 ((decide (0 ≤ ((x.2.2.1.1.length : Nat) : Int))) && ((decide (((x.2.2.1.1.length : Nat) : Int) ≤ ((x.2.2.1.1.length : Nat) : Int))) && ((decide (8 * ((x.2.2.1.1.length : Nat) : Int) ≤ 281474976710656)) && (decide (((x.2.2.1.1.length : Nat) : Int) ≤ 281474976710656))))))))))) then some (getR ((0, ()) : (Int × Unit)) (lv2 ((), (sec 0 (lv0 ((), (sec 0 ([] : List Int) 0 (Int.toNat ((x.2.2.1.1.length : Nat) : Int))), (((Int.toNat ((x.2.2.1.1.length : Nat) : Int)) : Nat) : Int), 0, x, ())).2.1 0 (lv0 ((), (sec 0 ([] : List Int) 0 (Int.toNat ((x.2.2.1.1.length : Nat) : Int))), (((Int.toNat ((x.2.2.1.1.length : Nat) : Int)) : Nat) : Int), 0, x, ())).2.1.length), (((lv0 ((), (sec 0 ([] : List Int) 0 (Int.toNat ((x.2.2.1.1.length : Nat) : Int))), (((Int.toNat ((x.2.2.1.1.length : Nat) : Int)) : Nat) : Int), 0, x, ())).2.1.length : Nat) : Int), 0, (lv0 ((), (sec 0 ([] : List Int) 0 (Int.toNat ((x.2.2.1.1.length : Nat) : Int))), (((Int.toNat ((x.2.2.1.1.length : Nat) : Int)) : Nat) : Int), 0, x, ())).2.2.1, ()))).1 else none))
theorem t17 (v37 : (KD6 × KD26) → Ya5 → Int) (k37 : (KD6 × KD26) → Ya5 → Bool) (lv0 : Ya2 → Ya23) (lk0 : Ya2 → Bool) (lv2 : Ya2 → Ya25) (lk2 : Ya2 → Bool) (x : (KD6 × KD26)) : fnR (CxL Try.Θ (kOf [(37, smR OD0 [0] [(.int .i64), (.int .i64)] (.int .i64) v37 k37)]) (lOf [(0, orc 81 26 0 hd17_0 ys17_0 lv0 lk0), (2, orc 81 50 2 hd17_2 ys17_2 lv2 lk2)])) Try.f17 OD0 [0] 1 (.int .i64) [] x = S17 v37 k37 lv0 lk0 lv2 lk2 x := by kernel_rfl
noncomputable def S18 (v38 : ((List Int) × Unit) → (List Int)) (k38 : ((List Int) × Unit) → Bool) (a0 : KD6) : Option KD6 :=
 (bif (tt 1 (k38 (a0.2.2.2.1, ()))) then some (a0.1, (a0.2.1, (a0.2.2.1, ((v38 (a0.2.2.2.1, ())), a0.2.2.2.2)))) else none)
theorem t18 (v38 : ((List Int) × Unit) → (List Int)) (k38 : ((List Int) × Unit) → Bool) (a0 : KD6) : fnT (CxL Try.Θ (kOf [(38, sm [(.vsl (.int .i64))] (.vsl (.int .i64)) v38 k38)]) (lOf [])) Try.f18 KT17 [⟨KT17, a0⟩] = S18 v38 k38 a0 := by kernel_rfl
noncomputable def S54  (a0 : Int) (a1 : Int) : Option Ya0 :=
 some ((iandn .u64 a0 a1), (a1, ()))
theorem t54  (a0 : Int) (a1 : Int) : fnT (CxL Try.Θ (kOf []) (lOf [])) Try.f54 (.pair (.int .u64) KT7) [⟨(.int .u64), a0⟩, ⟨(.int .u64), a1⟩] = S54  a0 a1 := by kernel_rfl
noncomputable def S39 (v54 : Ya5 → Ya0) (k54 : Ya5 → Bool)  : Option Ya0 :=
 (bif (tt 1 (k54 (0, 18446744073709551615, ()))) then some (v54 (0, 18446744073709551615, ())) else none)
theorem t39 (v54 : Ya5 → Ya0) (k54 : Ya5 → Bool)  : fnT (CxL Try.Θ (kOf [(54, sm [(.int .u64), (.int .u64)] (.pair (.int .u64) KT7) v54 k54)]) (lOf [])) Try.f39 (.pair (.int .u64) KT7) [] = S39 v54 k54  := by kernel_rfl
noncomputable def S19 (v39 : (Unit) → Ya0) (k39 : (Unit) → Bool)  : Option KD0 :=
 (bif (tt 1 (k39 (()))) then some ((v39 (())), (0, (18446744073709551615, ()))) else none)
theorem t19 (v39 : (Unit) → Ya0) (k39 : (Unit) → Bool)  : fnT (CxL Try.Θ (kOf [(39, sm [] (.pair (.int .u64) KT7) v39 k39)]) (lOf [])) Try.f19 KT8 [] = S19 v39 k39  := by kernel_rfl
noncomputable def S40 (v54 : Ya5 → Ya0) (k54 : Ya5 → Bool) (a0 : Int) : Option Ya0 :=
 (bif (tt 1 (k54 (a0, 0, ()))) then some (v54 (a0, 0, ())) else none)
theorem t40 (v54 : Ya5 → Ya0) (k54 : Ya5 → Bool) (a0 : Int) : fnT (CxL Try.Θ (kOf [(54, sm [(.int .u64), (.int .u64)] (.pair (.int .u64) KT7) v54 k54)]) (lOf [])) Try.f40 (.pair (.int .u64) KT7) [⟨(.int .u64), a0⟩] = S40 v54 k54 a0 := by kernel_rfl
noncomputable def S20 (v40 : (Int × Unit) → Ya0) (k40 : (Int × Unit) → Bool) (a0 : Int) : Option KD0 :=
 (bif (tt 1 (k40 (a0, ()))) then some ((v40 (a0, ())), (a0, (a0, ()))) else none)
theorem t20 (v40 : (Int × Unit) → Ya0) (k40 : (Int × Unit) → Bool) (a0 : Int) : fnT (CxL Try.Θ (kOf [(40, sm [(.int .u64)] (.pair (.int .u64) KT7) v40 k40)]) (lOf [])) Try.f20 KT8 [⟨(.int .u64), a0⟩] = S20 v40 k40 a0 := by kernel_rfl
noncomputable def S42  (a0 : Ya0) (a1 : Int) : Option Ya0 :=
 (bif (decide (a1 = 8)) then
 (bif (tt 1 (decide (0 ≤ (IntKind.wrap .i64 (64 - a1))))) then some ((iand .u64 a0.1 (ishr .u64 18446744073709551615 (IntKind.wrap .i64 (64 - a1)))), ((iand .u64 a0.2.1 (ishr .u64 18446744073709551615 (IntKind.wrap .i64 (64 - a1)))), ())) else none)
 else
 (bif (decide (a1 = 16)) then
 (bif (tt 1 (decide (0 ≤ (IntKind.wrap .i64 (64 - a1))))) then some ((iand .u64 a0.1 (ishr .u64 18446744073709551615 (IntKind.wrap .i64 (64 - a1)))), ((iand .u64 a0.2.1 (ishr .u64 18446744073709551615 (IntKind.wrap .i64 (64 - a1)))), ())) else none)
 else
 (bif (decide (a1 = 32)) then
 (bif (tt 1 (decide (0 ≤ (IntKind.wrap .i64 (64 - a1))))) then some ((iand .u64 a0.1 (ishr .u64 18446744073709551615 (IntKind.wrap .i64 (64 - a1)))), ((iand .u64 a0.2.1 (ishr .u64 18446744073709551615 (IntKind.wrap .i64 (64 - a1)))), ())) else none)
 else
 some a0)))
theorem t42  (a0 : Ya0) (a1 : Int) : fnT (CxL Try.Θ (kOf []) (lOf [])) Try.f42 (.pair (.int .u64) KT7) [⟨(.pair (.int .u64) KT7), a0⟩, ⟨(.int .i64), a1⟩] = S42  a0 a1 := by kernel_rfl
noncomputable def S71  (a0 : Int) : Option Int :=
 (bif (decide (a0 ≥ 4294967296)) then
 (bif (decide ((ishr .u64 a0 32) ≥ 65536)) then
 (bif (decide ((ishr .u64 (ishr .u64 a0 32) 16) ≥ 256)) then
 (bif (tt 1 ((decide (0 ≤ (IntKind.wrap .u8 (ishr .u64 (ishr .u64 (ishr .u64 a0 32) 16) 8)))) && (decide ((IntKind.wrap .u8 (ishr .u64 (ishr .u64 (ishr .u64 a0 32) 16) 8)) < 256)))) then some (IntKind.wrap .i64 (56 + (IntKind.wrap .i64 ((([0, 1, 2, 2, 3, 3, 3, 3, 4, 4, 4, 4, 4, 4, 4, 4, 5, 5, 5, 5, 5, 5, 5, 5, 5, 5, 5, 5, 5, 5, 5, 5, 6, 6, 6, 6, 6, 6, 6, 6, 6, 6, 6, 6, 6, 6, 6, 6, 6, 6, 6, 6, 6, 6, 6, 6, 6, 6, 6, 6, 6, 6, 6, 6, 7, 7, 7, 7, 7, 7, 7, 7, 7, 7, 7, 7, 7, 7, 7, 7, 7, 7, 7, 7, 7, 7, 7, 7, 7, 7, 7, 7, 7, 7, 7, 7, 7, 7, 7, 7, 7, 7, 7, 7, 7, 7, 7, 7, 7, 7, 7, 7, 7, 7, 7, 7, 7, 7, 7, 7, 7, 7, 7, 7, 7, 7, 7, 7, 8, 8, 8, 8, 8, 8, 8, 8, 8, 8, 8, 8, 8, 8, 8, 8, 8, 8, 8, 8, 8, 8, 8, 8, 8, 8, 8, 8, 8, 8, 8, 8, 8, 8, 8, 8, 8, 8, 8, 8, 8, 8, 8, 8, 8, 8, 8, 8, 8, 8, 8, 8, 8, 8, 8, 8, 8, 8, 8, 8, 8, 8, 8, 8, 8, 8, 8, 8, 8, 8, 8, 8, 8, 8, 8, 8, 8, 8, 8, 8, 8, 8, 8, 8, 8, 8, 8, 8, 8, 8, 8, 8, 8, 8, 8, 8, 8, 8, 8, 8, 8, 8, 8, 8, 8, 8, 8, 8, 8, 8, 8, 8, 8, 8, 8, 8, 8, 8, 8, 8, 8, 8, 8, 8, 8, 8, 8, 8] : List UInt8).getD (Int.toNat (IntKind.wrap .u8 (ishr .u64 (ishr .u64 (ishr .u64 a0 32) 16) 8))) 0).toNat : Int)))) else none)
 else
 (bif (tt 1 ((decide (0 ≤ (IntKind.wrap .u8 (ishr .u64 (ishr .u64 a0 32) 16)))) && (decide ((IntKind.wrap .u8 (ishr .u64 (ishr .u64 a0 32) 16)) < 256)))) then some (IntKind.wrap .i64 (48 + (IntKind.wrap .i64 ((([0, 1, 2, 2, 3, 3, 3, 3, 4, 4, 4, 4, 4, 4, 4, 4, 5, 5, 5, 5, 5, 5, 5, 5, 5, 5, 5, 5, 5, 5, 5, 5, 6, 6, 6, 6, 6, 6, 6, 6, 6, 6, 6, 6, 6, 6, 6, 6, 6, 6, 6, 6, 6, 6, 6, 6, 6, 6, 6, 6, 6, 6, 6, 6, 7, 7, 7, 7, 7, 7, 7, 7, 7, 7, 7, 7, 7, 7, 7, 7, 7, 7, 7, 7, 7, 7, 7, 7, 7, 7, 7, 7, 7, 7, 7, 7, 7, 7, 7, 7, 7, 7, 7, 7, 7, 7, 7, 7, 7, 7, 7, 7, 7, 7, 7, 7, 7, 7, 7, 7, 7, 7, 7, 7, 7, 7, 7, 7, 8, 8, 8, 8, 8, 8, 8, 8, 8, 8, 8, 8, 8, 8, 8, 8, 8, 8, 8, 8, 8, 8, 8, 8, 8, 8, 8, 8, 8, 8, 8, 8, 8, 8, 8, 8, 8, 8, 8, 8, 8, 8, 8, 8, 8, 8, 8, 8, 8, 8, 8, 8, 8, 8, 8, 8, 8, 8, 8, 8, 8, 8, 8, 8, 8, 8, 8, 8, 8, 8, 8, 8, 8, 8, 8, 8, 8, 8, 8, 8, 8, 8, 8, 8, 8, 8, 8, 8, 8, 8, 8, 8, 8, 8, 8, 8, 8, 8, 8, 8, 8, 8, 8, 8, 8, 8, 8, 8, 8, 8, 8, 8, 8, 8, 8, 8, 8, 8, 8, 8, 8, 8, 8, 8, 8, 8, 8, 8] : List UInt8).getD (Int.toNat (IntKind.wrap .u8 (ishr .u64 (ishr .u64 a0 32) 16))) 0).toNat : Int)))) else none))
 else
 (bif (decide ((ishr .u64 a0 32) ≥ 256)) then
 (bif (tt 1 ((decide (0 ≤ (IntKind.wrap .u8 (ishr .u64 (ishr .u64 a0 32) 8)))) && (decide ((IntKind.wrap .u8 (ishr .u64 (ishr .u64 a0 32) 8)) < 256)))) then some (IntKind.wrap .i64 (40 + (IntKind.wrap .i64 ((([0, 1, 2, 2, 3, 3, 3, 3, 4, 4, 4, 4, 4, 4, 4, 4, 5, 5, 5, 5, 5, 5, 5, 5, 5, 5, 5, 5, 5, 5, 5, 5, 6, 6, 6, 6, 6, 6, 6, 6, 6, 6, 6, 6, 6, 6, 6, 6, 6, 6, 6, 6, 6, 6, 6, 6, 6, 6, 6, 6, 6, 6, 6, 6, 7, 7, 7, 7, 7, 7, 7, 7, 7, 7, 7, 7, 7, 7, 7, 7, 7, 7, 7, 7, 7, 7, 7, 7, 7, 7, 7, 7, 7, 7, 7, 7, 7, 7, 7, 7, 7, 7, 7, 7, 7, 7, 7, 7, 7, 7, 7, 7, 7, 7, 7, 7, 7, 7, 7, 7, 7, 7, 7, 7, 7, 7, 7, 7, 8, 8, 8, 8, 8, 8, 8, 8, 8, 8, 8, 8, 8, 8, 8, 8, 8, 8, 8, 8, 8, 8, 8, 8, 8, 8, 8, 8, 8, 8, 8, 8, 8, 8, 8, 8, 8, 8, 8, 8, 8, 8, 8, 8, 8, 8, 8, 8, 8, 8, 8, 8, 8, 8, 8, 8, 8, 8, 8, 8, 8, 8, 8, 8, 8, 8, 8, 8, 8, 8, 8, 8, 8, 8, 8, 8, 8, 8, 8, 8, 8, 8, 8, 8, 8, 8, 8, 8, 8, 8, 8, 8, 8, 8, 8, 8, 8, 8, 8, 8, 8, 8, 8, 8, 8, 8, 8, 8, 8, 8, 8, 8, 8, 8, 8, 8, 8, 8, 8, 8, 8, 8, 8, 8, 8, 8, 8, 8] : List UInt8).getD (Int.toNat (IntKind.wrap .u8 (ishr .u64 (ishr .u64 a0 32) 8))) 0).toNat : Int)))) else none)
 else
 (bif (tt 1 ((decide (0 ≤ (IntKind.wrap .u8 (ishr .u64 a0 32)))) && (decide ((IntKind.wrap .u8 (ishr .u64 a0 32)) < 256)))) then some (IntKind.wrap .i64 (32 + (IntKind.wrap .i64 ((([0, 1, 2, 2, 3, 3, 3, 3, 4, 4, 4, 4, 4, 4, 4, 4, 5, 5, 5, 5, 5, 5, 5, 5, 5, 5, 5, 5, 5, 5, 5, 5, 6, 6, 6, 6, 6, 6, 6, 6, 6, 6, 6, 6, 6, 6, 6, 6, 6, 6, 6, 6, 6, 6, 6, 6, 6, 6, 6, 6, 6, 6, 6, 6, 7, 7, 7, 7, 7, 7, 7, 7, 7, 7, 7, 7, 7, 7, 7, 7, 7, 7, 7, 7, 7, 7, 7, 7, 7, 7, 7, 7, 7, 7, 7, 7, 7, 7, 7, 7, 7, 7, 7, 7, 7, 7, 7, 7, 7, 7, 7, 7, 7, 7, 7, 7, 7, 7, 7, 7, 7, 7, 7, 7, 7, 7, 7, 7, 8, 8, 8, 8, 8, 8, 8, 8, 8, 8, 8, 8, 8, 8, 8, 8, 8, 8, 8, 8, 8, 8, 8, 8, 8, 8, 8, 8, 8, 8, 8, 8, 8, 8, 8, 8, 8, 8, 8, 8, 8, 8, 8, 8, 8, 8, 8, 8, 8, 8, 8, 8, 8, 8, 8, 8, 8, 8, 8, 8, 8, 8, 8, 8, 8, 8, 8, 8, 8, 8, 8, 8, 8, 8, 8, 8, 8, 8, 8, 8, 8, 8, 8, 8, 8, 8, 8, 8, 8, 8, 8, 8, 8, 8, 8, 8, 8, 8, 8, 8, 8, 8, 8, 8, 8, 8, 8, 8, 8, 8, 8, 8, 8, 8, 8, 8, 8, 8, 8, 8, 8, 8, 8, 8, 8, 8, 8, 8] : List UInt8).getD (Int.toNat (IntKind.wrap .u8 (ishr .u64 a0 32))) 0).toNat : Int)))) else none)))
 else
 (bif (decide (a0 ≥ 65536)) then
 (bif (decide ((ishr .u64 a0 16) ≥ 256)) then
 (bif (tt 1 ((decide (0 ≤ (IntKind.wrap .u8 (ishr .u64 (ishr .u64 a0 16) 8)))) && (decide ((IntKind.wrap .u8 (ishr .u64 (ishr .u64 a0 16) 8)) < 256)))) then some (IntKind.wrap .i64 (24 + (IntKind.wrap .i64 ((([0, 1, 2, 2, 3, 3, 3, 3, 4, 4, 4, 4, 4, 4, 4, 4, 5, 5, 5, 5, 5, 5, 5, 5, 5, 5, 5, 5, 5, 5, 5, 5, 6, 6, 6, 6, 6, 6, 6, 6, 6, 6, 6, 6, 6, 6, 6, 6, 6, 6, 6, 6, 6, 6, 6, 6, 6, 6, 6, 6, 6, 6, 6, 6, 7, 7, 7, 7, 7, 7, 7, 7, 7, 7, 7, 7, 7, 7, 7, 7, 7, 7, 7, 7, 7, 7, 7, 7, 7, 7, 7, 7, 7, 7, 7, 7, 7, 7, 7, 7, 7, 7, 7, 7, 7, 7, 7, 7, 7, 7, 7, 7, 7, 7, 7, 7, 7, 7, 7, 7, 7, 7, 7, 7, 7, 7, 7, 7, 8, 8, 8, 8, 8, 8, 8, 8, 8, 8, 8, 8, 8, 8, 8, 8, 8, 8, 8, 8, 8, 8, 8, 8, 8, 8, 8, 8, 8, 8, 8, 8, 8, 8, 8, 8, 8, 8, 8, 8, 8, 8, 8, 8, 8, 8, 8, 8, 8, 8, 8, 8, 8, 8, 8, 8, 8, 8, 8, 8, 8, 8, 8, 8, 8, 8, 8, 8, 8, 8, 8, 8, 8, 8, 8, 8, 8, 8, 8, 8, 8, 8, 8, 8, 8, 8, 8, 8, 8, 8, 8, 8, 8, 8, 8, 8, 8, 8, 8, 8, 8, 8, 8, 8, 8, 8, 8, 8, 8, 8, 8, 8, 8, 8, 8, 8, 8, 8, 8, 8, 8, 8, 8, 8, 8, 8, 8, 8] : List UInt8).getD (Int.toNat (IntKind.wrap .u8 (ishr .u64 (ishr .u64 a0 16) 8))) 0).toNat : Int)))) else none)
 else
 (bif (tt 1 ((decide (0 ≤ (IntKind.wrap .u8 (ishr .u64 a0 16)))) && (decide ((IntKind.wrap .u8 (ishr .u64 a0 16)) < 256)))) then some (IntKind.wrap .i64 (16 + (IntKind.wrap .i64 ((([0, 1, 2, 2, 3, 3, 3, 3, 4, 4, 4, 4, 4, 4, 4, 4, 5, 5, 5, 5, 5, 5, 5, 5, 5, 5, 5, 5, 5, 5, 5, 5, 6, 6, 6, 6, 6, 6, 6, 6, 6, 6, 6, 6, 6, 6, 6, 6, 6, 6, 6, 6, 6, 6, 6, 6, 6, 6, 6, 6, 6, 6, 6, 6, 7, 7, 7, 7, 7, 7, 7, 7, 7, 7, 7, 7, 7, 7, 7, 7, 7, 7, 7, 7, 7, 7, 7, 7, 7, 7, 7, 7, 7, 7, 7, 7, 7, 7, 7, 7, 7, 7, 7, 7, 7, 7, 7, 7, 7, 7, 7, 7, 7, 7, 7, 7, 7, 7, 7, 7, 7, 7, 7, 7, 7, 7, 7, 7, 8, 8, 8, 8, 8, 8, 8, 8, 8, 8, 8, 8, 8, 8, 8, 8, 8, 8, 8, 8, 8, 8, 8, 8, 8, 8, 8, 8, 8, 8, 8, 8, 8, 8, 8, 8, 8, 8, 8, 8, 8, 8, 8, 8, 8, 8, 8, 8, 8, 8, 8, 8, 8, 8, 8, 8, 8, 8, 8, 8, 8, 8, 8, 8, 8, 8, 8, 8, 8, 8, 8, 8, 8, 8, 8, 8, 8, 8, 8, 8, 8, 8, 8, 8, 8, 8, 8, 8, 8, 8, 8, 8, 8, 8, 8, 8, 8, 8, 8, 8, 8, 8, 8, 8, 8, 8, 8, 8, 8, 8, 8, 8, 8, 8, 8, 8, 8, 8, 8, 8, 8, 8, 8, 8, 8, 8, 8, 8] : List UInt8).getD (Int.toNat (IntKind.wrap .u8 (ishr .u64 a0 16))) 0).toNat : Int)))) else none))
 else
 (bif (decide (a0 ≥ 256)) then
 (bif (tt 1 ((decide (0 ≤ (IntKind.wrap .u8 (ishr .u64 a0 8)))) && (decide ((IntKind.wrap .u8 (ishr .u64 a0 8)) < 256)))) then some (IntKind.wrap .i64 (8 + (IntKind.wrap .i64 ((([0, 1, 2, 2, 3, 3, 3, 3, 4, 4, 4, 4, 4, 4, 4, 4, 5, 5, 5, 5, 5, 5, 5, 5, 5, 5, 5, 5, 5, 5, 5, 5, 6, 6, 6, 6, 6, 6, 6, 6, 6, 6, 6, 6, 6, 6, 6, 6, 6, 6, 6, 6, 6, 6, 6, 6, 6, 6, 6, 6, 6, 6, 6, 6, 7, 7, 7, 7, 7, 7, 7, 7, 7, 7, 7, 7, 7, 7, 7, 7, 7, 7, 7, 7, 7, 7, 7, 7, 7, 7, 7, 7, 7, 7, 7, 7, 7, 7, 7, 7, 7, 7, 7, 7, 7, 7, 7, 7, 7, 7, 7, 7, 7, 7, 7, 7, 7, 7, 7, 7, 7, 7, 7, 7, 7, 7, 7, 7, 8, 8, 8, 8, 8, 8, 8, 8, 8, 8, 8, 8, 8, 8, 8, 8, 8, 8, 8, 8, 8, 8, 8, 8, 8, 8, 8, 8, 8, 8, 8, 8, 8, 8, 8, 8, 8, 8, 8, 8, 8, 8, 8, 8, 8, 8, 8, 8, 8, 8, 8, 8, 8, 8, 8, 8, 8, 8, 8, 8, 8, 8, 8, 8, 8, 8, 8, 8, 8, 8, 8, 8, 8, 8, 8, 8, 8, 8, 8, 8, 8, 8, 8, 8, 8, 8, 8, 8, 8, 8, 8, 8, 8, 8, 8, 8, 8, 8, 8, 8, 8, 8, 8, 8, 8, 8, 8, 8, 8, 8, 8, 8, 8, 8, 8, 8, 8, 8, 8, 8, 8, 8, 8, 8, 8, 8, 8, 8] : List UInt8).getD (Int.toNat (IntKind.wrap .u8 (ishr .u64 a0 8))) 0).toNat : Int)))) else none)
 else
 (bif (tt 1 ((decide (0 ≤ (IntKind.wrap .u8 a0))) && (decide ((IntKind.wrap .u8 a0) < 256)))) then some (IntKind.wrap .i64 (0 + (IntKind.wrap .i64 ((([0, 1, 2, 2, 3, 3, 3, 3, 4, 4, 4, 4, 4, 4, 4, 4, 5, 5, 5, 5, 5, 5, 5, 5, 5, 5, 5, 5, 5, 5, 5, 5, 6, 6, 6, 6, 6, 6, 6, 6, 6, 6, 6, 6, 6, 6, 6, 6, 6, 6, 6, 6, 6, 6, 6, 6, 6, 6, 6, 6, 6, 6, 6, 6, 7, 7, 7, 7, 7, 7, 7, 7, 7, 7, 7, 7, 7, 7, 7, 7, 7, 7, 7, 7, 7, 7, 7, 7, 7, 7, 7, 7, 7, 7, 7, 7, 7, 7, 7, 7, 7, 7, 7, 7, 7, 7, 7, 7, 7, 7, 7, 7, 7, 7, 7, 7, 7, 7, 7, 7, 7, 7, 7, 7, 7, 7, 7, 7, 8, 8, 8, 8, 8, 8, 8, 8, 8, 8, 8, 8, 8, 8, 8, 8, 8, 8, 8, 8, 8, 8, 8, 8, 8, 8, 8, 8, 8, 8, 8, 8, 8, 8, 8, 8, 8, 8, 8, 8, 8, 8, 8, 8, 8, 8, 8, 8, 8, 8, 8, 8, 8, 8, 8, 8, 8, 8, 8, 8, 8, 8, 8, 8, 8, 8, 8, 8, 8, 8, 8, 8, 8, 8, 8, 8, 8, 8, 8, 8, 8, 8, 8, 8, 8, 8, 8, 8, 8, 8, 8, 8, 8, 8, 8, 8, 8, 8, 8, 8, 8, 8, 8, 8, 8, 8, 8, 8, 8, 8, 8, 8, 8, 8, 8, 8, 8, 8, 8, 8, 8, 8, 8, 8, 8, 8, 8, 8] : List UInt8).getD (Int.toNat (IntKind.wrap .u8 a0)) 0).toNat : Int)))) else none))))
theorem t71  (a0 : Int) : fnT (CxL Try.Θ (kOf []) (lOf [])) Try.f71 (.int .i64) [⟨(.int .u64), a0⟩] = S71  a0 := by kernel_rfl
noncomputable def S69 (v54 : Ya5 → Ya0) (k54 : Ya5 → Bool) (v71 : (Int × Unit) → Int) (k71 : (Int × Unit) → Bool) (a0 : Int) (a1 : Int) : Option Ya0 :=
 (bif ((k54 (a0, (IntKind.wrap .u64 ((ishl .u64 1 (v71 ((ixor .u64 a0 a1), ()))) - 1)), ())) && ((decide (0 ≤ (v71 ((ixor .u64 a0 a1), ())))) && (tt 1 (k71 ((ixor .u64 a0 a1), ()))))) then some (v54 (a0, (IntKind.wrap .u64 ((ishl .u64 1 (v71 ((ixor .u64 a0 a1), ()))) - 1)), ())) else none)
theorem t69 (v54 : Ya5 → Ya0) (k54 : Ya5 → Bool) (v71 : (Int × Unit) → Int) (k71 : (Int × Unit) → Bool) (a0 : Int) (a1 : Int) : fnT (CxL Try.Θ (kOf [(54, sm [(.int .u64), (.int .u64)] (.pair (.int .u64) KT7) v54 k54), (71, sm [(.int .u64)] (.int .i64) v71 k71)]) (lOf [])) Try.f69 (.pair (.int .u64) KT7) [⟨(.int .u64), a0⟩, ⟨(.int .u64), a1⟩] = S69 v54 k54 v71 k71 a0 a1 := by kernel_rfl
noncomputable def S68 (v54 : Ya5 → Ya0) (k54 : Ya5 → Bool) (a0 : Ya0) (a1 : Ya0) : Option KD18 :=
 (bif (!(decide ((iandn .u64 (ixor .u64 a0.1 a1.1) (ior .u64 a0.2.1 a1.2.1)) = 0))) then
 some ((0, (0, ())), false, ())
 else
 (bif (tt 1 (k54 ((ior .u64 a0.1 a1.1), (iand .u64 a0.2.1 a1.2.1), ()))) then some ((v54 ((ior .u64 a0.1 a1.1), (iand .u64 a0.2.1 a1.2.1), ())), true, ()) else none))
theorem t68 (v54 : Ya5 → Ya0) (k54 : Ya5 → Bool) (a0 : Ya0) (a1 : Ya0) : fnT (CxL Try.Θ (kOf [(54, sm [(.int .u64), (.int .u64)] (.pair (.int .u64) KT7) v54 k54)]) (lOf [])) Try.f68 KT19 [⟨(.pair (.int .u64) KT7), a0⟩, ⟨(.pair (.int .u64) KT7), a1⟩] = S68 v54 k54 a0 a1 := by kernel_rfl
def hd55_0 : List It := [.pt 1 ⟨0, [0]⟩, .pt 2 ⟨1, [0]⟩, .sl 4 .bool, .sl 13 (.int .i64), .bl 0 KT8, .bl 1 KT8]
def ys55_0 : Ways := [((.exit 0), [.pt 1 ⟨0, [0]⟩, .pt 2 ⟨1, [0]⟩, .sl 4 .bool, .bl 0 KT8, .bl 1 KT8])]
noncomputable def R55_0 (v68 : Ya24 → KD18) (k68 : Ya24 → Bool) (v69 : Ya5 → Ya0) (k69 : Ya5 → Bool) (lv0 : Ya12 → Ya27) (lk0 : Ya12 → Bool) (x0 : Unit) (x1 : Unit) (x2 : Bool) (x3 : Int) (x4 : KD0) (x5 : KD0) : Option (Ya12 ⊕ Ya27) :=
 (bif (decide (x3 < 3)) then
 (bif x2 then
 (bif (decide ((if x4.1.1 > x4.2.1 then x4.1.1 else x4.2.1) ≤ (if (ior .u64 x4.1.1 x4.1.2.1) < x4.2.2.1 then (ior .u64 x4.1.1 x4.1.2.1) else x4.2.2.1))) then
 (bif (tt 1 ((k68 (x4.1, (v69 ((if x4.1.1 > x4.2.1 then x4.1.1 else x4.2.1), (if (ior .u64 x4.1.1 x4.1.2.1) < x4.2.2.1 then (ior .u64 x4.1.1 x4.1.2.1) else x4.2.2.1), ())), ())) && (tt 1 (k69 ((if x4.1.1 > x4.2.1 then x4.1.1 else x4.2.1), (if (ior .u64 x4.1.1 x4.1.2.1) < x4.2.2.1 then (ior .u64 x4.1.1 x4.1.2.1) else x4.2.2.1), ()))))) then some (.inl ((), (), (v68 (x4.1, (v69 ((if x4.1.1 > x4.2.1 then x4.1.1 else x4.2.1), (if (ior .u64 x4.1.1 x4.1.2.1) < x4.2.2.1 then (ior .u64 x4.1.1 x4.1.2.1) else x4.2.2.1), ())), ())).2.1, (IntKind.wrap .i64 (x3 + 1)), ((v68 (x4.1, (v69 ((if x4.1.1 > x4.2.1 then x4.1.1 else x4.2.1), (if (ior .u64 x4.1.1 x4.1.2.1) < x4.2.2.1 then (ior .u64 x4.1.1 x4.1.2.1) else x4.2.2.1), ())), ())).1, ((if x4.1.1 > x4.2.1 then x4.1.1 else x4.2.1), ((if (ior .u64 x4.1.1 x4.1.2.1) < x4.2.2.1 then (ior .u64 x4.1.1 x4.1.2.1) else x4.2.2.1), x4.2.2.2))), x5, ())) else none)
 else
 some (.inl ((), (), (decide ((if x4.1.1 > x4.2.1 then x4.1.1 else x4.2.1) ≤ (if (ior .u64 x4.1.1 x4.1.2.1) < x4.2.2.1 then (ior .u64 x4.1.1 x4.1.2.1) else x4.2.2.1))), (IntKind.wrap .i64 (x3 + 1)), (x4.1, ((if x4.1.1 > x4.2.1 then x4.1.1 else x4.2.1), ((if (ior .u64 x4.1.1 x4.1.2.1) < x4.2.2.1 then (ior .u64 x4.1.1 x4.1.2.1) else x4.2.2.1), x4.2.2.2))), x5, ())))
 else
 some (.inl ((), (), false, (IntKind.wrap .i64 (x3 + 1)), (x4.1, ((if x4.1.1 > x4.2.1 then x4.1.1 else x4.2.1), ((if (ior .u64 x4.1.1 x4.1.2.1) < x4.2.2.1 then (ior .u64 x4.1.1 x4.1.2.1) else x4.2.2.1), x4.2.2.2))), x5, ())))
 else
 some (.inr ((), (), x2, x4, x5, ())))
theorem r55_0 (v68 : Ya24 → KD18) (k68 : Ya24 → Bool) (v69 : Ya5 → Ya0) (k69 : Ya5 → Bool) (lv0 : Ya12 → Ya27) (lk0 : Ya12 → Bool) (x0 : Unit) (x1 : Unit) (x2 : Bool) (x3 : Int) (x4 : KD0) (x5 : KD0) : codeT (CxL Try.Θ (kOf [(68, sm [(.pair (.int .u64) KT7), (.pair (.int .u64) KT7)] KT19 v68 k68), (69, sm [(.int .u64), (.int .u64)] (.pair (.int .u64) KT7) v69 k69)]) (lOf [(0, orc 59 26 0 hd55_0 ys55_0 lv0 lk0)])) (loopB 0 (bodyF Try.f55)) (mkS 59 26 hd55_0 (x0, x1, x2, x3, x4, x5, ())) (leafR 59 hd55_0 ys55_0) = R55_0 v68 k68 v69 k69 lv0 lk0 x0 x1 x2 x3 x4 x5 := by kernel_rfl
noncomputable def S55 (v68 : Ya24 → KD18) (k68 : Ya24 → Bool) (v69 : Ya5 → Ya0) (k69 : Ya5 → Bool) (lv0 : Ya12 → Ya27) (lk0 : Ya12 → Bool) (a0 : KD0) : Option Ya35 :=
 (bif (!(lv0 ((), (), (decide ((iand .u64 a0.1.1 a0.1.2.1) = 0)), 0, a0, ((0, (0, ())), (0, (0, ()))), ())).2.2.1) then
 (bif (tt 1 (lk0 ((), (), (decide ((iand .u64 a0.1.1 a0.1.2.1) = 0)), 0, a0, ((0, (0, ())), (0, (0, ()))), ()))) then some (((0, (0, ())), (0, (0, ()))), false, ()) else none)
 else
 (bif (tt 1 (lk0 ((), (), (decide ((iand .u64 a0.1.1 a0.1.2.1) = 0)), 0, a0, ((0, (0, ())), (0, (0, ()))), ()))) then some ((lv0 ((), (), (decide ((iand .u64 a0.1.1 a0.1.2.1) = 0)), 0, a0, ((0, (0, ())), (0, (0, ()))), ())).2.2.2.1, true, ()) else none))
theorem t55 (v68 : Ya24 → KD18) (k68 : Ya24 → Bool) (v69 : Ya5 → Ya0) (k69 : Ya5 → Bool) (lv0 : Ya12 → Ya27) (lk0 : Ya12 → Bool) (a0 : KD0) : fnT (CxL Try.Θ (kOf [(68, sm [(.pair (.int .u64) KT7), (.pair (.int .u64) KT7)] KT19 v68 k68), (69, sm [(.int .u64), (.int .u64)] (.pair (.int .u64) KT7) v69 k69)]) (lOf [(0, orc 59 26 0 hd55_0 ys55_0 lv0 lk0)])) Try.f55 KT20 [⟨KT8, a0⟩] = S55 v68 k68 v69 k69 lv0 lk0 a0 := by kernel_rfl
noncomputable def S41 (v55 : (KD0 × Unit) → Ya35) (k55 : (KD0 × Unit) → Bool) (a0 : Ya0) (a1 : Int) (a2 : Int) : Option KD0 :=
 (bif (tt 1 (k55 ((a0, (a1, (a2, ()))), ()))) then some (v55 ((a0, (a1, (a2, ()))), ())).1 else none)
theorem t41 (v55 : (KD0 × Unit) → Ya35) (k55 : (KD0 × Unit) → Bool) (a0 : Ya0) (a1 : Int) (a2 : Int) : fnT (CxL Try.Θ (kOf [(55, sm [KT8] KT20 v55 k55)]) (lOf [])) Try.f41 KT8 [⟨(.pair (.int .u64) KT7), a0⟩, ⟨(.int .u64), a1⟩, ⟨(.int .u64), a2⟩] = S41 v55 k55 a0 a1 a2 := by kernel_rfl
noncomputable def S21 (v41 : (Ya0 × Int × Int × Unit) → KD0) (k41 : (Ya0 × Int × Int × Unit) → Bool) (v42 : (Ya0 × Int × Unit) → Ya0) (k42 : (Ya0 × Int × Unit) → Bool) (a0 : KD0) (a1 : Int) : Option KD0 :=
 (bif (decide (a1 = 8)) then
 (bif (decide (a0.2.2.1 > (ishr .u64 18446744073709551615 (IntKind.wrap .i64 (64 - a1))))) then
 (bif ((k41 ((v42 (a0.1, a1, ())), 0, (ishr .u64 18446744073709551615 (IntKind.wrap .i64 (64 - a1))), ())) && ((k42 (a0.1, a1, ())) && (tt 1 (decide (0 ≤ (IntKind.wrap .i64 (64 - a1))))))) then some (v41 ((v42 (a0.1, a1, ())), 0, (ishr .u64 18446744073709551615 (IntKind.wrap .i64 (64 - a1))), ())) else none)
 else
 (bif ((k41 ((v42 (a0.1, a1, ())), a0.2.1, a0.2.2.1, ())) && ((k42 (a0.1, a1, ())) && (tt 1 (decide (0 ≤ (IntKind.wrap .i64 (64 - a1))))))) then some (v41 ((v42 (a0.1, a1, ())), a0.2.1, a0.2.2.1, ())) else none))
 else
 (bif (decide (a1 = 16)) then
 (bif (decide (a0.2.2.1 > (ishr .u64 18446744073709551615 (IntKind.wrap .i64 (64 - a1))))) then
 (bif ((k41 ((v42 (a0.1, a1, ())), 0, (ishr .u64 18446744073709551615 (IntKind.wrap .i64 (64 - a1))), ())) && ((k42 (a0.1, a1, ())) && (tt 1 (decide (0 ≤ (IntKind.wrap .i64 (64 - a1))))))) then some (v41 ((v42 (a0.1, a1, ())), 0, (ishr .u64 18446744073709551615 (IntKind.wrap .i64 (64 - a1))), ())) else none)
 else
 (bif ((k41 ((v42 (a0.1, a1, ())), a0.2.1, a0.2.2.1, ())) && ((k42 (a0.1, a1, ())) && (tt 1 (decide (0 ≤ (IntKind.wrap .i64 (64 - a1))))))) then some (v41 ((v42 (a0.1, a1, ())), a0.2.1, a0.2.2.1, ())) else none))
 else
 (bif (decide (a1 = 32)) then
 (bif (decide (a0.2.2.1 > (ishr .u64 18446744073709551615 (IntKind.wrap .i64 (64 - a1))))) then
 (bif ((k41 ((v42 (a0.1, a1, ())), 0, (ishr .u64 18446744073709551615 (IntKind.wrap .i64 (64 - a1))), ())) && ((k42 (a0.1, a1, ())) && (tt 1 (decide (0 ≤ (IntKind.wrap .i64 (64 - a1))))))) then some (v41 ((v42 (a0.1, a1, ())), 0, (ishr .u64 18446744073709551615 (IntKind.wrap .i64 (64 - a1))), ())) else none)
 else
 (bif ((k41 ((v42 (a0.1, a1, ())), a0.2.1, a0.2.2.1, ())) && ((k42 (a0.1, a1, ())) && (tt 1 (decide (0 ≤ (IntKind.wrap .i64 (64 - a1))))))) then some (v41 ((v42 (a0.1, a1, ())), a0.2.1, a0.2.2.1, ())) else none))
 else
 some a0)))
theorem t21 (v41 : (Ya0 × Int × Int × Unit) → KD0) (k41 : (Ya0 × Int × Int × Unit) → Bool) (v42 : (Ya0 × Int × Unit) → Ya0) (k42 : (Ya0 × Int × Unit) → Bool) (a0 : KD0) (a1 : Int) : fnT (CxL Try.Θ (kOf [(41, sm [(.pair (.int .u64) KT7), (.int .u64), (.int .u64)] KT8 v41 k41), (42, sm [(.pair (.int .u64) KT7), (.int .i64)] (.pair (.int .u64) KT7) v42 k42)]) (lOf [])) Try.f21 KT8 [⟨KT8, a0⟩, ⟨(.int .i64), a1⟩] = S21 v41 k41 v42 k42 a0 a1 := by kernel_rfl
noncomputable def S44  (a0 : Ya3) : Option Ya3 :=
 (bif (decide (a0.1 = 4)) then
 some rZ
 else
 (bif (decide (a0.1 = 5)) then some rZ else some a0))
theorem t44  (a0 : Ya3) : fnT (CxL Try.Θ (kOf []) (lOf [])) Try.f44 KT11 [⟨KT11, a0⟩] = S44  a0 := by kernel_rfl
noncomputable def S22  (a0 : KD6) : Option KD6 :=
 none
theorem t22  (a0 : KD6) : fnT (CxL Try.Θ (kOf []) (lOf [])) Try.f22 KT17 [⟨KT17, a0⟩] = S22  a0 := by kernel_rfl
noncomputable def S58  (a0 : Int) (a1 : Int) : Option Bool :=
 (bif (decide (a1 = 1)) then
 (bif (decide (a0 ≥ 0)) then some (decide (a0 ≤ (IntKind.wrap .i64 (512 - a1)))) else some false)
 else
 (bif (decide (a1 = 2)) then
 (bif (decide (a0 ≥ 0)) then some (decide (a0 ≤ (IntKind.wrap .i64 (512 - a1)))) else some false)
 else
 (bif (decide (a1 = 4)) then
 (bif (decide (a0 ≥ 0)) then some (decide (a0 ≤ (IntKind.wrap .i64 (512 - a1)))) else some false)
 else
 (bif (decide (a1 = 8)) then (bif (decide (a0 ≥ 0)) then some (decide (a0 ≤ (IntKind.wrap .i64 (512 - a1)))) else some false) else some false))))
theorem t58  (a0 : Int) (a1 : Int) : fnT (CxL Try.Θ (kOf []) (lOf [])) Try.f58 .bool [⟨(.int .i64), a0⟩, ⟨(.int .i64), a1⟩] = S58  a0 a1 := by kernel_rfl
noncomputable def S59  (a0 : Int) (a1 : Int) : Option Bool :=
 (bif (decide (a1 = 8)) then some (decide ((iand .i64 a0 7) = 0)) else some false)
theorem t59  (a0 : Int) (a1 : Int) : fnT (CxL Try.Θ (kOf []) (lOf [])) Try.f59 .bool [⟨(.int .i64), a0⟩, ⟨(.int .i64), a1⟩] = S59  a0 a1 := by kernel_rfl
def hd45_0 : List It := [.sl 1 (.int .i64), .sl 2 (.int .i64), .pt 4 ⟨0, [0]⟩, .pt 8 ⟨2, [0]⟩, .pt 9 ⟨3, [0]⟩, .sl 10 (.int .i64), .bl 0 KT17, .bl 2 KT17, .bl 3 (.int .i64)]
def ys45_0 : Ways := [((.exit 0), [.pt 4 ⟨0, [0]⟩, .pt 8 ⟨2, [0]⟩, .pt 9 ⟨3, [0]⟩, .bl 0 KT17, .bl 2 KT17, .bl 3 (.int .i64)])]
noncomputable def R45_0 (v18 : (KD6 × Unit) → KD6) (k18 : (KD6 × Unit) → Bool) (v58 : Ya5 → Bool) (k58 : Ya5 → Bool) (v59 : Ya5 → Bool) (k59 : Ya5 → Bool) (v57 : Ya11 → Unit) (k57 : Ya11 → Bool) (q57_0 : Ya11 → Bool) (lv0 : Ya7 → Ya26) (lk0 : Ya7 → Bool) (x0 : Int) (x1 : Int) (x2 : Unit) (x3 : Unit) (x4 : Unit) (x5 : Int) (x6 : KD6) (x7 : KD6) (x8 : Int) : Option (Ya7 ⊕ Ya26) :=
 (bif (decide (x5 < (IntKind.wrap .i64 (x0 + x1)))) then
 (bif (decide ((x6.2.1.getD (Int.toNat (IntKind.wrap .i64 (Int.tdiv x5 8))) sZ).1 = 2)) then
 (bif (decide ((x6.2.1.getD (Int.toNat (IntKind.wrap .i64 (Int.tdiv x5 8))) sZ).2.2.1.1 = 1)) then
 (bif (tt 1 (((tt 1 (decide (((Int.toNat (IntKind.wrap .i64 (Int.tdiv x5 8))) : Nat) < 64))) && ((decide (0 ≤ (iand .i64 x5 7))) && (tt 2 (decide (((Int.toNat (IntKind.wrap .i64 (Int.tdiv x5 8))) : Nat) < 64))))) && ((tt 1 (decide (((Int.toNat (IntKind.wrap .i64 (Int.tdiv x5 8))) : Nat) < 64))) && ((tt 1 (decide (((Int.toNat (IntKind.wrap .i64 (Int.tdiv x5 8))) : Nat) < 64))) && ((tt 1 (decide (((Int.toNat (IntKind.wrap .i64 (Int.tdiv x5 8))) : Nat) < 64))) && (tt 1 ((decide (0 ≤ (IntKind.wrap .i64 (Int.tdiv x5 8)))) && (decide ((IntKind.wrap .i64 (Int.tdiv x5 8)) < 64))))))))) then some (.inl (x0, x1, (), (), (), (IntKind.wrap .i64 (x5 + 1)), (x6.1, ((lset sZ (lset sZ x6.2.1 (Int.toNat (IntKind.wrap .i64 (Int.tdiv x5 8))) ((x6.2.1.getD (Int.toNat (IntKind.wrap .i64 (Int.tdiv x5 8))) sZ).1, (255, (x6.2.1.getD (Int.toNat (IntKind.wrap .i64 (Int.tdiv x5 8))) sZ).2.2))) (Int.toNat (IntKind.wrap .i64 (Int.tdiv x5 8))) (1, ((ior .i64 ((lset sZ x6.2.1 (Int.toNat (IntKind.wrap .i64 (Int.tdiv x5 8))) ((x6.2.1.getD (Int.toNat (IntKind.wrap .i64 (Int.tdiv x5 8))) sZ).1, (255, (x6.2.1.getD (Int.toNat (IntKind.wrap .i64 (Int.tdiv x5 8))) sZ).2.2))).getD (Int.toNat (IntKind.wrap .i64 (Int.tdiv x5 8))) sZ).2.1 (ishl .i64 1 (iand .i64 x5 7))), (rZ, ())))), x6.2.2)), x7, x8, ())) else none)
 else
 (bif (!(decide ((x6.2.1.getD (Int.toNat (IntKind.wrap .i64 (Int.tdiv x5 8))) sZ).1 = 1))) then
 (bif (tt 1 (((tt 1 (decide (((Int.toNat (IntKind.wrap .i64 (Int.tdiv x5 8))) : Nat) < 64))) && ((decide (0 ≤ (iand .i64 x5 7))) && (tt 2 (decide (((Int.toNat (IntKind.wrap .i64 (Int.tdiv x5 8))) : Nat) < 64))))) && ((tt 1 (decide (((Int.toNat (IntKind.wrap .i64 (Int.tdiv x5 8))) : Nat) < 64))) && ((tt 1 (decide (((Int.toNat (IntKind.wrap .i64 (Int.tdiv x5 8))) : Nat) < 64))) && ((tt 1 (decide (((Int.toNat (IntKind.wrap .i64 (Int.tdiv x5 8))) : Nat) < 64))) && ((tt 1 (decide (((Int.toNat (IntKind.wrap .i64 (Int.tdiv x5 8))) : Nat) < 64))) && (tt 1 ((decide (0 ≤ (IntKind.wrap .i64 (Int.tdiv x5 8)))) && (decide ((IntKind.wrap .i64 (Int.tdiv x5 8)) < 64)))))))))) then some (.inl (x0, x1, (), (), (), (IntKind.wrap .i64 (x5 + 1)), (x6.1, ((lset sZ (lset sZ x6.2.1 (Int.toNat (IntKind.wrap .i64 (Int.tdiv x5 8))) ((x6.2.1.getD (Int.toNat (IntKind.wrap .i64 (Int.tdiv x5 8))) sZ).1, (0, (x6.2.1.getD (Int.toNat (IntKind.wrap .i64 (Int.tdiv x5 8))) sZ).2.2))) (Int.toNat (IntKind.wrap .i64 (Int.tdiv x5 8))) (1, ((ior .i64 ((lset sZ x6.2.1 (Int.toNat (IntKind.wrap .i64 (Int.tdiv x5 8))) ((x6.2.1.getD (Int.toNat (IntKind.wrap .i64 (Int.tdiv x5 8))) sZ).1, (0, (x6.2.1.getD (Int.toNat (IntKind.wrap .i64 (Int.tdiv x5 8))) sZ).2.2))).getD (Int.toNat (IntKind.wrap .i64 (Int.tdiv x5 8))) sZ).2.1 (ishl .i64 1 (iand .i64 x5 7))), (rZ, ())))), x6.2.2)), x7, x8, ())) else none)
 else
 (bif (tt 1 (((tt 1 (decide (((Int.toNat (IntKind.wrap .i64 (Int.tdiv x5 8))) : Nat) < 64))) && ((decide (0 ≤ (iand .i64 x5 7))) && (tt 2 (decide (((Int.toNat (IntKind.wrap .i64 (Int.tdiv x5 8))) : Nat) < 64))))) && ((tt 1 (decide (((Int.toNat (IntKind.wrap .i64 (Int.tdiv x5 8))) : Nat) < 64))) && ((tt 1 (decide (((Int.toNat (IntKind.wrap .i64 (Int.tdiv x5 8))) : Nat) < 64))) && ((tt 1 (decide (((Int.toNat (IntKind.wrap .i64 (Int.tdiv x5 8))) : Nat) < 64))) && (tt 1 ((decide (0 ≤ (IntKind.wrap .i64 (Int.tdiv x5 8)))) && (decide ((IntKind.wrap .i64 (Int.tdiv x5 8)) < 64))))))))) then some (.inl (x0, x1, (), (), (), (IntKind.wrap .i64 (x5 + 1)), (x6.1, ((lset sZ x6.2.1 (Int.toNat (IntKind.wrap .i64 (Int.tdiv x5 8))) (1, ((ior .i64 (x6.2.1.getD (Int.toNat (IntKind.wrap .i64 (Int.tdiv x5 8))) sZ).2.1 (ishl .i64 1 (iand .i64 x5 7))), (rZ, ())))), x6.2.2)), x7, x8, ())) else none)))
 else
 (bif (!(decide ((x6.2.1.getD (Int.toNat (IntKind.wrap .i64 (Int.tdiv x5 8))) sZ).1 = 1))) then
 (bif (tt 1 (((tt 1 (decide (((Int.toNat (IntKind.wrap .i64 (Int.tdiv x5 8))) : Nat) < 64))) && ((decide (0 ≤ (iand .i64 x5 7))) && (tt 2 (decide (((Int.toNat (IntKind.wrap .i64 (Int.tdiv x5 8))) : Nat) < 64))))) && ((tt 1 (decide (((Int.toNat (IntKind.wrap .i64 (Int.tdiv x5 8))) : Nat) < 64))) && ((tt 1 (decide (((Int.toNat (IntKind.wrap .i64 (Int.tdiv x5 8))) : Nat) < 64))) && ((tt 1 (decide (((Int.toNat (IntKind.wrap .i64 (Int.tdiv x5 8))) : Nat) < 64))) && (tt 1 ((decide (0 ≤ (IntKind.wrap .i64 (Int.tdiv x5 8)))) && (decide ((IntKind.wrap .i64 (Int.tdiv x5 8)) < 64))))))))) then some (.inl (x0, x1, (), (), (), (IntKind.wrap .i64 (x5 + 1)), (x6.1, ((lset sZ (lset sZ x6.2.1 (Int.toNat (IntKind.wrap .i64 (Int.tdiv x5 8))) ((x6.2.1.getD (Int.toNat (IntKind.wrap .i64 (Int.tdiv x5 8))) sZ).1, (0, (x6.2.1.getD (Int.toNat (IntKind.wrap .i64 (Int.tdiv x5 8))) sZ).2.2))) (Int.toNat (IntKind.wrap .i64 (Int.tdiv x5 8))) (1, ((ior .i64 ((lset sZ x6.2.1 (Int.toNat (IntKind.wrap .i64 (Int.tdiv x5 8))) ((x6.2.1.getD (Int.toNat (IntKind.wrap .i64 (Int.tdiv x5 8))) sZ).1, (0, (x6.2.1.getD (Int.toNat (IntKind.wrap .i64 (Int.tdiv x5 8))) sZ).2.2))).getD (Int.toNat (IntKind.wrap .i64 (Int.tdiv x5 8))) sZ).2.1 (ishl .i64 1 (iand .i64 x5 7))), (rZ, ())))), x6.2.2)), x7, x8, ())) else none)
 else
 (bif (tt 1 (((tt 1 (decide (((Int.toNat (IntKind.wrap .i64 (Int.tdiv x5 8))) : Nat) < 64))) && ((decide (0 ≤ (iand .i64 x5 7))) && (tt 2 (decide (((Int.toNat (IntKind.wrap .i64 (Int.tdiv x5 8))) : Nat) < 64))))) && ((tt 1 (decide (((Int.toNat (IntKind.wrap .i64 (Int.tdiv x5 8))) : Nat) < 64))) && ((tt 1 (decide (((Int.toNat (IntKind.wrap .i64 (Int.tdiv x5 8))) : Nat) < 64))) && (tt 1 ((decide (0 ≤ (IntKind.wrap .i64 (Int.tdiv x5 8)))) && (decide ((IntKind.wrap .i64 (Int.tdiv x5 8)) < 64)))))))) then some (.inl (x0, x1, (), (), (), (IntKind.wrap .i64 (x5 + 1)), (x6.1, ((lset sZ x6.2.1 (Int.toNat (IntKind.wrap .i64 (Int.tdiv x5 8))) (1, ((ior .i64 (x6.2.1.getD (Int.toNat (IntKind.wrap .i64 (Int.tdiv x5 8))) sZ).2.1 (ishl .i64 1 (iand .i64 x5 7))), (rZ, ())))), x6.2.2)), x7, x8, ())) else none)))
 else
 some (.inr ((), (), (), x6, x7, x8, ())))
theorem r45_0 (v18 : (KD6 × Unit) → KD6) (k18 : (KD6 × Unit) → Bool) (v58 : Ya5 → Bool) (k58 : Ya5 → Bool) (v59 : Ya5 → Bool) (k59 : Ya5 → Bool) (v57 : Ya11 → Unit) (k57 : Ya11 → Bool) (q57_0 : Ya11 → Bool) (lv0 : Ya7 → Ya26) (lk0 : Ya7 → Bool) (x0 : Int) (x1 : Int) (x2 : Unit) (x3 : Unit) (x4 : Unit) (x5 : Int) (x6 : KD6) (x7 : KD6) (x8 : Int) : codeT (CxP Try.Θ (kOf [(18, sm [KT17] KT17 v18 k18), (58, sm [(.int .i64), (.int .i64)] .bool v58 k58), (59, sm [(.int .i64), (.int .i64)] .bool v59 k59)]) (lOf [(0, orc 91 28 0 hd45_0 ys45_0 lv0 lk0)]) (pOf [(57, pm [.bool, (.int .i64)] .tnil 108 [(q57_0, (fun x => x.2.1))] v57 k57)])) (loopB 0 (bodyF Try.f45)) (mkS 91 28 hd45_0 (x0, x1, x2, x3, x4, x5, x6, x7, x8, ())) (leafR 91 hd45_0 ys45_0) = R45_0 v18 k18 v58 k58 v59 k59 v57 k57 q57_0 lv0 lk0 x0 x1 x2 x3 x4 x5 x6 x7 x8 := by kernel_rfl
noncomputable def S45 (v18 : (KD6 × Unit) → KD6) (k18 : (KD6 × Unit) → Bool) (v58 : Ya5 → Bool) (k58 : Ya5 → Bool) (v59 : Ya5 → Bool) (k59 : Ya5 → Bool) (v57 : Ya11 → Unit) (k57 : Ya11 → Bool) (q57_0 : Ya11 → Bool) (lv0 : Ya7 → Ya26) (lk0 : Ya7 → Bool) (a0 : KD6) (a1 : Int) (a2 : Int) (a3 : Ya3) : Option (KD6 × (Int × Unit)) :=
 (bif (q57_0 ((v58 (a1, a2, ())), 62, ())) then
 (bif (tt 1 (k58 (a1, a2, ()))) then some (([], ([], (0, ([], (0, ()))))), 62, ()) else none)
 else
 (bif (q57_0 ((!(decide (a3.1 = 0))), 60, ())) then
 (bif ((k57 ((v58 (a1, a2, ())), 62, ())) && (tt 1 (k58 (a1, a2, ())))) then some (([], ([], (0, ([], (0, ()))))), 60, ()) else none)
 else
 (bif (v59 (a1, a2, ())) then
 (bif (q57_0 (true, 63, ())) then
 (bif ((k59 (a1, a2, ())) && ((k57 ((!(decide (a3.1 = 0))), 60, ())) && ((k57 ((v58 (a1, a2, ())), 62, ())) && (tt 1 (k58 (a1, a2, ())))))) then some (([], ([], (0, ([], (0, ()))))), 63, ()) else none)
 else
 (bif (v59 (a1, a2, ())) then
 (bif ((tt 1 (decide (((Int.toNat (IntKind.wrap .i64 (Int.tdiv a1 8))) : Nat) < 64))) && (((decide (0 ≤ (IntKind.wrap .i64 (Int.tdiv a1 8)))) && (decide ((IntKind.wrap .i64 (Int.tdiv a1 8)) < 64))) && ((k59 (a1, a2, ())) && ((k18 (a0, ())) && ((k57 (true, 63, ())) && ((k59 (a1, a2, ())) && ((k57 ((!(decide (a3.1 = 0))), 60, ())) && ((k57 ((v58 (a1, a2, ())), 62, ())) && (tt 1 (k58 (a1, a2, ()))))))))))) then some (((v18 (a0, ())).1, ((lset sZ (v18 (a0, ())).2.1 (Int.toNat (IntKind.wrap .i64 (Int.tdiv a1 8))) (2, (0, (a3, ())))), (v18 (a0, ())).2.2)), 0, ()) else none)
 else
 (bif ((lk0 (a1, a2, (), (), (), a1, (v18 (a0, ())), ([], ([], (0, ([], (0, ()))))), 0, ())) && (tt 1 ((k59 (a1, a2, ())) && ((k18 (a0, ())) && ((k57 (true, 63, ())) && ((k59 (a1, a2, ())) && ((k57 ((!(decide (a3.1 = 0))), 60, ())) && ((k57 ((v58 (a1, a2, ())), 62, ())) && (tt 1 (k58 (a1, a2, ()))))))))))) then some ((lv0 (a1, a2, (), (), (), a1, (v18 (a0, ())), ([], ([], (0, ([], (0, ()))))), 0, ())).2.2.2.1, 0, ()) else none)))
 else
 (bif (q57_0 ((decide (a3.1 = 1)), 63, ())) then
 (bif ((k59 (a1, a2, ())) && ((k57 ((!(decide (a3.1 = 0))), 60, ())) && ((k57 ((v58 (a1, a2, ())), 62, ())) && (tt 1 (k58 (a1, a2, ())))))) then some (([], ([], (0, ([], (0, ()))))), 63, ()) else none)
 else
 (bif (v59 (a1, a2, ())) then
 (bif ((tt 1 (decide (((Int.toNat (IntKind.wrap .i64 (Int.tdiv a1 8))) : Nat) < 64))) && (((decide (0 ≤ (IntKind.wrap .i64 (Int.tdiv a1 8)))) && (decide ((IntKind.wrap .i64 (Int.tdiv a1 8)) < 64))) && ((k59 (a1, a2, ())) && ((k18 (a0, ())) && ((k57 ((decide (a3.1 = 1)), 63, ())) && ((k59 (a1, a2, ())) && ((k57 ((!(decide (a3.1 = 0))), 60, ())) && ((k57 ((v58 (a1, a2, ())), 62, ())) && (tt 1 (k58 (a1, a2, ()))))))))))) then some (((v18 (a0, ())).1, ((lset sZ (v18 (a0, ())).2.1 (Int.toNat (IntKind.wrap .i64 (Int.tdiv a1 8))) (2, (0, (a3, ())))), (v18 (a0, ())).2.2)), 0, ()) else none)
 else
 (bif ((lk0 (a1, a2, (), (), (), a1, (v18 (a0, ())), ([], ([], (0, ([], (0, ()))))), 0, ())) && (tt 1 ((k59 (a1, a2, ())) && ((k18 (a0, ())) && ((k57 ((decide (a3.1 = 1)), 63, ())) && ((k59 (a1, a2, ())) && ((k57 ((!(decide (a3.1 = 0))), 60, ())) && ((k57 ((v58 (a1, a2, ())), 62, ())) && (tt 1 (k58 (a1, a2, ()))))))))))) then some ((lv0 (a1, a2, (), (), (), a1, (v18 (a0, ())), ([], ([], (0, ([], (0, ()))))), 0, ())).2.2.2.1, 0, ()) else none))))))
theorem t45 (v18 : (KD6 × Unit) → KD6) (k18 : (KD6 × Unit) → Bool) (v58 : Ya5 → Bool) (k58 : Ya5 → Bool) (v59 : Ya5 → Bool) (k59 : Ya5 → Bool) (v57 : Ya11 → Unit) (k57 : Ya11 → Bool) (q57_0 : Ya11 → Bool) (lv0 : Ya7 → Ya26) (lk0 : Ya7 → Bool) (a0 : KD6) (a1 : Int) (a2 : Int) (a3 : Ya3) : fnD (CxP Try.Θ (kOf [(18, sm [KT17] KT17 v18 k18), (58, sm [(.int .i64), (.int .i64)] .bool v58 k58), (59, sm [(.int .i64), (.int .i64)] .bool v59 k59)]) (lOf [(0, orc 91 28 0 hd45_0 ys45_0 lv0 lk0)]) (pOf [(57, pm [.bool, (.int .i64)] .tnil 108 [(q57_0, (fun x => x.2.1))] v57 k57)])) 56 (dfTail Try.f56.body) 108 4 Try.f45 (.tup KT17 KT31) [⟨KT17, a0⟩, ⟨(.int .i64), a1⟩, ⟨(.int .i64), a2⟩, ⟨KT11, a3⟩] = S45 v18 k18 v58 k58 v59 k59 v57 k57 q57_0 lv0 lk0 a0 a1 a2 a3 := by kernel_rfl
noncomputable def S48  (a0 : Ya3) : Option Ya3 :=
 (bif (decide (a0.1 = 9)) then none else some a0)
theorem t48  (a0 : Ya3) : fnT (CxL Try.Θ (kOf []) (lOf [])) Try.f48 KT11 [⟨KT11, a0⟩] = S48  a0 := by kernel_rfl
noncomputable def S61  (a0 : Int) : Option Bool :=
 none
theorem t61  (a0 : Int) : fnT (CxL Try.Θ (kOf []) (lOf [])) Try.f61 .bool [⟨(.int .i64), a0⟩] = S61  a0 := by kernel_rfl
noncomputable def S47  (a0 : KD6) (a1 : Int) : Option KD6 :=
 none
theorem t47  (a0 : KD6) (a1 : Int) : fnT (CxL Try.Θ (kOf []) (lOf [])) Try.f47 KT17 [⟨KT17, a0⟩, ⟨(.int .i64), a1⟩] = S47  a0 a1 := by kernel_rfl
noncomputable def S26  (a0 : KD6) (a1 : Int) : Option KD6 :=
 none
theorem t26  (a0 : KD6) (a1 : Int) : fnT (CxL Try.Θ (kOf []) (lOf [])) Try.f26 KT17 [⟨KT17, a0⟩, ⟨(.int .i64), a1⟩] = S26  a0 a1 := by kernel_rfl
noncomputable def S9 (v16 : (Int × Unit) → Ya34) (k16 : (Int × Unit) → Bool) (v17 : (KD6 × KD26) → (Unit) → Int) (k17 : (KD6 × KD26) → (Unit) → Bool) (v18 : (KD6 × Unit) → KD6) (k18 : (KD6 × Unit) → Bool) (v19 : (Unit) → KD0) (k19 : (Unit) → Bool) (v20 : (Int × Unit) → KD0) (k20 : (Int × Unit) → Bool) (v21 : Ya22 → KD0) (k21 : Ya22 → Bool) (v22 : (KD6 × Unit) → KD6) (k22 : (KD6 × Unit) → Bool) (v24 : (KD0 × Unit) → Ya32) (k24 : (KD0 × Unit) → Bool) (v25 : Ya21 → Bool) (k25 : Ya21 → Bool) (v26 : Ya16 → KD6) (k26 : Ya16 → Bool) (a0 : KD6) (a1 : Ya14) (a2 : Int) : Option (KD6 × (Int × Unit)) :=
 (bif (!(v16 (a2, ())).2.1) then
 (bif (tt 1 (k16 (a2, ()))) then some (([], ([], (0, ([], (0, ()))))), 66, ()) else none)
 else
 (bif (!(decide ((v17 (a0, (a1, ((v16 (a2, ())).1, ()))) (())) = 0))) then
 (bif ((tt 1 (k17 (a0, (a1, ((v16 (a2, ())).1, ()))) (()))) && (tt 1 (k16 (a2, ())))) then some (([], ([], (0, ([], (0, ()))))), (v17 (a0, (a1, ((v16 (a2, ())).1, ()))) (())), ()) else none)
 else
 (bif (decide (a2 = 1)) then
 (bif ((k20 (0, ())) && ((k19 (())) && ((k18 (a0, ())) && ((tt 1 (k17 (a0, (a1, ((v16 (a2, ())).1, ()))) (()))) && (tt 1 (k16 (a2, ()))))))) then some (((lset rZ (cutIn rZ (v18 (a0, ())).1 1 (List.replicate 5 rZ)) 0 (8, ((v20 (0, ())), (((v18 (a0, ())).1.getD 1 rZ).2.2.1, ((IntKind.wrap .i64 ((v18 (a0, ())).2.2.2.2.1 + 1)), (0, ())))))), ((v18 (a0, ())).2.1, ((v18 (a0, ())).2.2.1, ((v18 (a0, ())).2.2.2.1, ((IntKind.wrap .i64 ((v18 (a0, ())).2.2.2.2.1 + 1)), (v18 (a0, ())).2.2.2.2.2))))), 0, ()) else none)
 else
 (bif (decide (a2 = 8)) then
 (bif ((k21 ((v19 (())), 32, ())) && ((k19 (())) && ((k18 (a0, ())) && ((tt 1 (k17 (a0, (a1, ((v16 (a2, ())).1, ()))) (()))) && (tt 1 (k16 (a2, ()))))))) then some (((lset rZ (cutIn rZ (v18 (a0, ())).1 1 (List.replicate 5 rZ)) 0 (1, ((v21 ((v19 (())), 32, ())), (0, (0, (0, ())))))), (v18 (a0, ())).2), 0, ()) else none)
 else
 (bif (decide (a2 = 12)) then
 (bif (decide ((((v18 (a0, ())).2.2.2.1.length : Nat) : Int) > 0)) then
 (bif ((k19 (())) && ((k18 (a0, ())) && ((tt 1 (k17 (a0, (a1, ((v16 (a2, ())).1, ()))) (()))) && (tt 1 (k16 (a2, ())))))) then some (([], ([], (0, ([], (0, ()))))), 67, ()) else none)
 else
 (bif ((k19 (())) && ((k18 (a0, ())) && ((tt 1 (k17 (a0, (a1, ((v16 (a2, ())).1, ()))) (()))) && (tt 1 (k16 (a2, ())))))) then some (((lset rZ (cutIn rZ (v18 (a0, ())).1 1 (List.replicate 5 rZ)) 0 (1, ((v19 (())), (0, (0, (0, ())))))), (v18 (a0, ())).2), 0, ()) else none))
 else
 (bif (decide (a2 = 44)) then
 (bif ((k22 ((v18 (a0, ())), ())) && ((k19 (())) && ((k18 (a0, ())) && ((tt 1 (k17 (a0, (a1, ((v16 (a2, ())).1, ()))) (()))) && (tt 1 (k16 (a2, ()))))))) then some (((lset rZ (cutIn rZ (v22 ((v18 (a0, ())), ())).1 1 (List.replicate 5 rZ)) 0 (1, ((v19 (())), (0, (0, (0, ())))))), (v22 ((v18 (a0, ())), ())).2), 0, ()) else none)
 else
 (bif (decide (a2 = 88)) then
 none
 else
 (bif (decide (a2 = 89)) then
 none
 else
 (bif (decide (a2 = 131)) then
 none
 else
 (bif (decide (a2 = 132)) then
 (bif (!(v25 ((v18 (a0, ())).2.2.2.1, ((v18 (a0, ())).1.getD 1 rZ).2.2.2.1, ()))) then
 (bif ((k25 ((v18 (a0, ())).2.2.2.1, ((v18 (a0, ())).1.getD 1 rZ).2.2.2.1, ())) && ((k19 (())) && ((k18 (a0, ())) && ((tt 1 (k17 (a0, (a1, ((v16 (a2, ())).1, ()))) (()))) && (tt 1 (k16 (a2, ()))))))) then some (([], ([], (0, ([], (0, ()))))), 67, ()) else none)
 else
 (bif ((k26 ((v18 (a0, ())), ((v18 (a0, ())).1.getD 1 rZ).2.2.2.1, ())) && ((k25 ((v18 (a0, ())).2.2.2.1, ((v18 (a0, ())).1.getD 1 rZ).2.2.2.1, ())) && ((k19 (())) && ((k18 (a0, ())) && ((tt 1 (k17 (a0, (a1, ((v16 (a2, ())).1, ()))) (()))) && (tt 1 (k16 (a2, ())))))))) then some (((lset rZ (cutIn rZ (v26 ((v18 (a0, ())), ((v18 (a0, ())).1.getD 1 rZ).2.2.2.1, ())).1 1 (List.replicate 5 rZ)) 0 (1, ((v19 (())), (0, (0, (0, ())))))), (v26 ((v18 (a0, ())), ((v18 (a0, ())).1.getD 1 rZ).2.2.2.1, ())).2), 0, ()) else none))
 else
 (bif (decide (a2 = 133)) then
 (bif (!(v25 ((v18 (a0, ())).2.2.2.1, ((v18 (a0, ())).1.getD 1 rZ).2.2.2.1, ()))) then
 (bif ((k25 ((v18 (a0, ())).2.2.2.1, ((v18 (a0, ())).1.getD 1 rZ).2.2.2.1, ())) && ((k19 (())) && ((k18 (a0, ())) && ((tt 1 (k17 (a0, (a1, ((v16 (a2, ())).1, ()))) (()))) && (tt 1 (k16 (a2, ()))))))) then some (([], ([], (0, ([], (0, ()))))), 67, ()) else none)
 else
 (bif ((k26 ((v18 (a0, ())), ((v18 (a0, ())).1.getD 1 rZ).2.2.2.1, ())) && ((k25 ((v18 (a0, ())).2.2.2.1, ((v18 (a0, ())).1.getD 1 rZ).2.2.2.1, ())) && ((k19 (())) && ((k18 (a0, ())) && ((tt 1 (k17 (a0, (a1, ((v16 (a2, ())).1, ()))) (()))) && (tt 1 (k16 (a2, ())))))))) then some (((lset rZ (cutIn rZ (v26 ((v18 (a0, ())), ((v18 (a0, ())).1.getD 1 rZ).2.2.2.1, ())).1 1 (List.replicate 5 rZ)) 0 (1, ((v19 (())), (0, (0, (0, ())))))), (v26 ((v18 (a0, ())), ((v18 (a0, ())).1.getD 1 rZ).2.2.2.1, ())).2), 0, ()) else none))
 else
 (bif ((k19 (())) && ((k18 (a0, ())) && ((tt 1 (k17 (a0, (a1, ((v16 (a2, ())).1, ()))) (()))) && (tt 1 (k16 (a2, ())))))) then some (((lset rZ (cutIn rZ (v18 (a0, ())).1 1 (List.replicate 5 rZ)) 0 (1, ((v19 (())), (0, (0, (0, ())))))), (v18 (a0, ())).2), 0, ()) else none))))))))))))
theorem t9 (v16 : (Int × Unit) → Ya34) (k16 : (Int × Unit) → Bool) (v17 : (KD6 × KD26) → (Unit) → Int) (k17 : (KD6 × KD26) → (Unit) → Bool) (v18 : (KD6 × Unit) → KD6) (k18 : (KD6 × Unit) → Bool) (v19 : (Unit) → KD0) (k19 : (Unit) → Bool) (v20 : (Int × Unit) → KD0) (k20 : (Int × Unit) → Bool) (v21 : Ya22 → KD0) (k21 : Ya22 → Bool) (v22 : (KD6 × Unit) → KD6) (k22 : (KD6 × Unit) → Bool) (v24 : (KD0 × Unit) → Ya32) (k24 : (KD0 × Unit) → Bool) (v25 : Ya21 → Bool) (k25 : Ya21 → Bool) (v26 : Ya16 → KD6) (k26 : Ya16 → Bool) (a0 : KD6) (a1 : Ya14) (a2 : Int) : fnT (CxL Try.Θ (kOf [(16, sm [(.int .i64)] KT25 v16 k16), (17, smR OD0 [0] [] (.int .i64) v17 k17), (18, sm [KT17] KT17 v18 k18), (19, sm [] KT8 v19 k19), (20, sm [(.int .u64)] KT8 v20 k20), (21, sm [KT8, (.int .i64)] KT8 v21 k21), (22, sm [KT17] KT17 v22 k22), (24, sm [KT8] KT30 v24 k24), (25, sm [(.vsl (.int .i64)), (.int .i64)] .bool v25 k25), (26, sm [KT17, (.int .i64)] KT17 v26 k26)]) (lOf [])) Try.f9 (.tup KT17 KT31) [⟨KT17, a0⟩, ⟨(.vsl KT21), a1⟩, ⟨(.int .i64), a2⟩] = S9 v16 k16 v17 k17 v18 k18 v19 k19 v20 k20 v21 k21 v22 k22 v24 k24 v25 k25 v26 k26 a0 a1 a2 := by kernel_rfl
end Go.Proofs
