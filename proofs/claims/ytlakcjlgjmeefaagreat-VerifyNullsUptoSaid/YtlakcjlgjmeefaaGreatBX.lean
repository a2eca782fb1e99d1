import Derived.Test.YtlakcjlgjmeefaaGreatT
import Derived.Test.YtlakcjlgjmeefaaGreatC
import Derived.Test.YtlakcjlgjmeefaaGreatGd
namespace Go.Proofs
open Go.GX
set_option linter.unusedVariables false
set_option maxRecDepth 100000
@[reducible] def KDx0 : Type := ((Int × (Int × Unit)) × (Int × (Int × Unit)))
@[reducible] def KDx1 : Type := (Int × (Int × (Int × Unit)))
@[reducible] def KDx2 : Type := (List (Int × (KDx0 × KDx1)))
@[reducible] def KDx3 : Type := ((Int × (KDx0 × KDx1)) × Unit)
@[reducible] def KDx4 : Type := (List (Int × (Int × KDx3)))
@[reducible] def KDx5 : Type := ((List Int) × (Int × Unit))
@[reducible] def KDx6 : Type := (KDx2 × (KDx4 × (Int × KDx5)))
@[reducible] def KTx7 : Ty := (.pair (.int .u64) .unit)
@[reducible] def KTx8 : Ty := (.pair (.int .u64) KTx7)
@[reducible] def KDx9 : Type := ((Int × (Int × Unit)) × (Bool × Unit))
@[reducible] def KTx10 : Ty := (.tup KTx8 (.tup .bool .tnil))
@[reducible] def KTx11 : Ty := (.tup (.pair KTx8 KTx8) (.tup .bool .tnil))
@[reducible] def KTx12 : Ty := (.pair (.int .i64) .unit)
@[reducible] def KTx13 : Ty := (.pair (.int .i64) KTx12)
@[reducible] def KTx14 : Ty := (.pair (.int .i64) KTx13)
@[reducible] def KTx15 : Ty := (.pair (.pair KTx8 KTx8) KTx14)
@[reducible] def KTx16 : Ty := (.pair (.int .i64) KTx15)
@[reducible] def KTx17 : Ty := (.pair (.int .i64) (.pair KTx16 .unit))
@[reducible] def KTx18 : Ty := (.pair (.int .i64) KTx17)
@[reducible] def KTx19 : Ty := (.pair (.vsl (.int .i64)) KTx12)
@[reducible] def KTx20 : Ty := (.pair (.int .i64) KTx19)
@[reducible] def KTx21 : Ty := (.pair (.arr 64 KTx18) KTx20)
@[reducible] def KTx22 : Ty := (.pair (.arr 11 KTx16) KTx21)
@[reducible] def KTx23 : Ty := (.vsl (.pair KTx22 KTx12))
@[reducible] def KTx24 : Ty := (.pair (.int .i64) KTx14)
@[reducible] def KTx25 : Ty := (.pair (.int .i64) KTx24)
@[reducible] def KTx26 : Ty := (.tup (.int .i64) .tnil)
@[reducible] def KTx27 : Ty := (.tup (.int .i64) KTx26)
@[reducible] def KTx28 : Ty := (.pair (.vsl KTx25) KTx12)
@[reducible] def KTx29 : Ty := (.pair (.vsl KTx24) KTx28)
@[reducible] def KDx30 : Type := (List (Int × (Int × KDx1)))
@[reducible] def KDx31 : Type := ((List (Int × KDx1)) × (KDx30 × (Int × Unit)))
@[reducible] def KDx32 : Type := (List (KDx6 × (Int × Unit)))
@[reducible] def KDx33 : Type := ((List Int) × (Int × Unit))
@[reducible] def KTx34 : Ty := (.tup (.vsl (.int .i64)) KTx26)
@[reducible] def KTx35 : Ty := (.tup (.vsl KTx22) KTx34)
noncomputable def S179  (a0 : (Int × (Int × Unit))) : Option Bool :=
  some (decide ((iand .u64 a0.1 a0.2.1) = 0))
theorem t179  (a0 : (Int × (Int × Unit))) : fnT (CxL Tryz.Θ (kOf []) (lOf [])) Tryz.f179 .bool [⟨KTx8, a0⟩] = S179  a0 := by kernel_rfl
def hd181_0 : List It := [.sl 0 (.int .u64), .pt 4 ⟨0, [0]⟩, .sl 5 (.int .u64), .sl 6 (.int .u64), .bl 0 KTx8]
def ys181_0 : Ways := [((.exit 0), [.sl 0 (.int .u64), .pt 4 ⟨0, [0]⟩, .sl 6 (.int .u64), .bl 0 KTx8])]
noncomputable def R181_0 (lv0 : (Int × Unit × Int × Int × (Int × (Int × Unit)) × Unit) → (Int × Unit × Int × (Int × (Int × Unit)) × Unit)) (lk0 : (Int × Unit × Int × Int × (Int × (Int × Unit)) × Unit) → Bool) (x0 : Int) (x1 : Unit) (x2 : Int) (x3 : Int) (x4 : (Int × (Int × Unit))) : Option ((Int × Unit × Int × Int × (Int × (Int × Unit)) × Unit) ⊕ (Int × Unit × Int × (Int × (Int × Unit)) × Unit)) :=
  (bif (!(decide (x2 = 0))) then some (.inl (x0, (), (ishr .u64 x2 1), (ior .u64 (ishl .u64 x3 1) 1), x4, ())) else some (.inr (x0, (), x3, x4, ())))
theorem r181_0 (lv0 : (Int × Unit × Int × Int × (Int × (Int × Unit)) × Unit) → (Int × Unit × Int × (Int × (Int × Unit)) × Unit)) (lk0 : (Int × Unit × Int × Int × (Int × (Int × Unit)) × Unit) → Bool) (x0 : Int) (x1 : Unit) (x2 : Int) (x3 : Int) (x4 : (Int × (Int × Unit))) : codeT (CxL Tryz.Θ (kOf []) (lOf [(0, orc 22 25 0 hd181_0 ys181_0 lv0 lk0)])) (loopB 0 (bodyF Tryz.f181)) (mkS 22 25 hd181_0 (x0, x1, x2, x3, x4, ())) (leafR 22 hd181_0 ys181_0) = R181_0 lv0 lk0 x0 x1 x2 x3 x4 := by kernel_rfl
noncomputable def S181 (lv0 : (Int × Unit × Int × Int × (Int × (Int × Unit)) × Unit) → (Int × Unit × Int × (Int × (Int × Unit)) × Unit)) (lk0 : (Int × Unit × Int × Int × (Int × (Int × Unit)) × Unit) → Bool) (a0 : Int) (a1 : Int) : Option (Int × (Int × Unit)) :=
  (bif (tt 1 (lk0 (a0, (), (ixor .u64 a0 a1), 0, (0, (0, ())), ()))) then some ((iandn .u64 (lv0 (a0, (), (ixor .u64 a0 a1), 0, (0, (0, ())), ())).1 (lv0 (a0, (), (ixor .u64 a0 a1), 0, (0, (0, ())), ())).2.2.1), ((lv0 (a0, (), (ixor .u64 a0 a1), 0, (0, (0, ())), ())).2.2.1, ())) else none)
theorem t181 (lv0 : (Int × Unit × Int × Int × (Int × (Int × Unit)) × Unit) → (Int × Unit × Int × (Int × (Int × Unit)) × Unit)) (lk0 : (Int × Unit × Int × Int × (Int × (Int × Unit)) × Unit) → Bool) (a0 : Int) (a1 : Int) : fnT (CxL Tryz.Θ (kOf []) (lOf [(0, orc 22 25 0 hd181_0 ys181_0 lv0 lk0)])) Tryz.f181 KTx8 [⟨(.int .u64), a0⟩, ⟨(.int .u64), a1⟩] = S181 lv0 lk0 a0 a1 := by kernel_rfl
noncomputable def S180  (a0 : (Int × (Int × Unit))) (a1 : (Int × (Int × Unit))) : Option KDx9 :=
  (bif (!(decide ((iandn .u64 (iandn .u64 (ixor .u64 a0.1 a1.1) a0.2.1) a1.2.1) = 0))) then
    some ((0, (0, ())), false, ())
  else
    some (((iandn .u64 (ior .u64 a0.1 a1.1) (iand .u64 a0.2.1 a1.2.1)), ((iand .u64 a0.2.1 a1.2.1), ())), true, ()))
theorem t180  (a0 : (Int × (Int × Unit))) (a1 : (Int × (Int × Unit))) : fnT (CxL Tryz.Θ (kOf []) (lOf [])) Tryz.f180 KTx10 [⟨KTx8, a0⟩, ⟨KTx8, a1⟩] = S180  a0 a1 := by kernel_rfl
def hd118_0 : List It := [.pt 1 ⟨0, [0]⟩, .pt 2 ⟨1, [0]⟩, .sl 4 (.int .i64), .bl 0 (.pair KTx8 KTx8), .bl 1 (.pair KTx8 KTx8)]
def ys118_0 : Ways := [((.exit 0), [.pt 1 ⟨0, [0]⟩, .pt 2 ⟨1, [0]⟩, .bl 0 (.pair KTx8 KTx8), .bl 1 (.pair KTx8 KTx8)]), (.ret, [.pt 2 ⟨1, [0]⟩, .sl 3 .bool, .bl 1 (.pair KTx8 KTx8)])]
noncomputable def R118_0 (v179 : ((Int × (Int × Unit)) × Unit) → Bool) (k179 : ((Int × (Int × Unit)) × Unit) → Bool) (v180 : ((Int × (Int × Unit)) × (Int × (Int × Unit)) × Unit) → KDx9) (k180 : ((Int × (Int × Unit)) × (Int × (Int × Unit)) × Unit) → Bool) (v181 : (Int × Int × Unit) → (Int × (Int × Unit))) (k181 : (Int × Int × Unit) → Bool) (lv0 : (Unit × Unit × Int × KDx0 × KDx0 × Unit) → ((Unit × Unit × KDx0 × KDx0 × Unit) ⊕ (Unit × Bool × KDx0 × Unit))) (lk0 : (Unit × Unit × Int × KDx0 × KDx0 × Unit) → Bool) (x0 : Unit) (x1 : Unit) (x2 : Int) (x3 : KDx0) (x4 : KDx0) : Option ((Unit × Unit × Int × KDx0 × KDx0 × Unit) ⊕ ((Unit × Unit × KDx0 × KDx0 × Unit) ⊕ (Unit × Bool × KDx0 × Unit))) :=
  (bif (decide (x2 < 3)) then
    (bif (decide ((if x3.1.1 > x3.2.1 then x3.1.1 else x3.2.1) > (if (ior .u64 x3.1.1 x3.1.2.1) < x3.2.2.1 then (ior .u64 x3.1.1 x3.1.2.1) else x3.2.2.1))) then
      some (.inr (.inr ((), false, ((0, (0, ())), (0, (0, ()))), ())))
    else
      (bif (!(v180 (x3.1, (v181 ((if x3.1.1 > x3.2.1 then x3.1.1 else x3.2.1), (if (ior .u64 x3.1.1 x3.1.2.1) < x3.2.2.1 then (ior .u64 x3.1.1 x3.1.2.1) else x3.2.2.1), ())), ())).2.1) then
        (bif (tt 2 ((k180 (x3.1, (v181 ((if x3.1.1 > x3.2.1 then x3.1.1 else x3.2.1), (if (ior .u64 x3.1.1 x3.1.2.1) < x3.2.2.1 then (ior .u64 x3.1.1 x3.1.2.1) else x3.2.2.1), ())), ())) && (tt 1 (k181 ((if x3.1.1 > x3.2.1 then x3.1.1 else x3.2.1), (if (ior .u64 x3.1.1 x3.1.2.1) < x3.2.2.1 then (ior .u64 x3.1.1 x3.1.2.1) else x3.2.2.1), ()))))) then some (.inr (.inr ((), false, ((0, (0, ())), (0, (0, ()))), ()))) else none)
      else
        (bif (tt 2 ((k180 (x3.1, (v181 ((if x3.1.1 > x3.2.1 then x3.1.1 else x3.2.1), (if (ior .u64 x3.1.1 x3.1.2.1) < x3.2.2.1 then (ior .u64 x3.1.1 x3.1.2.1) else x3.2.2.1), ())), ())) && (tt 1 (k181 ((if x3.1.1 > x3.2.1 then x3.1.1 else x3.2.1), (if (ior .u64 x3.1.1 x3.1.2.1) < x3.2.2.1 then (ior .u64 x3.1.1 x3.1.2.1) else x3.2.2.1), ()))))) then some (.inl ((), (), (IntKind.wrap .i64 (x2 + 1)), ((v180 (x3.1, (v181 ((if x3.1.1 > x3.2.1 then x3.1.1 else x3.2.1), (if (ior .u64 x3.1.1 x3.1.2.1) < x3.2.2.1 then (ior .u64 x3.1.1 x3.1.2.1) else x3.2.2.1), ())), ())).1, ((if x3.1.1 > x3.2.1 then x3.1.1 else x3.2.1), ((if (ior .u64 x3.1.1 x3.1.2.1) < x3.2.2.1 then (ior .u64 x3.1.1 x3.1.2.1) else x3.2.2.1), x3.2.2.2))), x4, ())) else none)))
  else
    some (.inr (.inl ((), (), x3, x4, ()))))
theorem r118_0 (v179 : ((Int × (Int × Unit)) × Unit) → Bool) (k179 : ((Int × (Int × Unit)) × Unit) → Bool) (v180 : ((Int × (Int × Unit)) × (Int × (Int × Unit)) × Unit) → KDx9) (k180 : ((Int × (Int × Unit)) × (Int × (Int × Unit)) × Unit) → Bool) (v181 : (Int × Int × Unit) → (Int × (Int × Unit))) (k181 : (Int × Int × Unit) → Bool) (lv0 : (Unit × Unit × Int × KDx0 × KDx0 × Unit) → ((Unit × Unit × KDx0 × KDx0 × Unit) ⊕ (Unit × Bool × KDx0 × Unit))) (lk0 : (Unit × Unit × Int × KDx0 × KDx0 × Unit) → Bool) (x0 : Unit) (x1 : Unit) (x2 : Int) (x3 : KDx0) (x4 : KDx0) : codeT (CxL Tryz.Θ (kOf [(179, sm [KTx8] .bool v179 k179), (180, sm [KTx8, KTx8] KTx10 v180 k180), (181, sm [(.int .u64), (.int .u64)] KTx8 v181 k181)]) (lOf [(0, orc 57 26 0 hd118_0 ys118_0 lv0 lk0)])) (loopB 0 (bodyF Tryz.f118)) (mkS 57 26 hd118_0 (x0, x1, x2, x3, x4, ())) (leafR 57 hd118_0 ys118_0) = R118_0 v179 k179 v180 k180 v181 k181 lv0 lk0 x0 x1 x2 x3 x4 := by kernel_rfl
noncomputable def S118 (v179 : ((Int × (Int × Unit)) × Unit) → Bool) (k179 : ((Int × (Int × Unit)) × Unit) → Bool) (v180 : ((Int × (Int × Unit)) × (Int × (Int × Unit)) × Unit) → KDx9) (k180 : ((Int × (Int × Unit)) × (Int × (Int × Unit)) × Unit) → Bool) (v181 : (Int × Int × Unit) → (Int × (Int × Unit))) (k181 : (Int × Int × Unit) → Bool) (lv0 : (Unit × Unit × Int × KDx0 × KDx0 × Unit) → ((Unit × Unit × KDx0 × KDx0 × Unit) ⊕ (Unit × Bool × KDx0 × Unit))) (lk0 : (Unit × Unit × Int × KDx0 × KDx0 × Unit) → Bool) (a0 : KDx0) : Option (KDx0 × (Bool × Unit)) :=
  (bif (!(v179 (a0.1, ()))) then
    (bif (tt 1 (k179 (a0.1, ()))) then some (((0, (0, ())), (0, (0, ()))), false, ()) else none)
  else
    (bif (isL (lv0 ((), (), 0, a0, ((0, (0, ())), (0, (0, ()))), ()))) then
      (bif ((lk0 ((), (), 0, a0, ((0, (0, ())), (0, (0, ()))), ())) && (tt 2 (k179 (a0.1, ())))) then some ((getL (((), (), ((0, (0, ())), (0, (0, ()))), ((0, (0, ())), (0, (0, ()))), ()) : (Unit × Unit × KDx0 × KDx0 × Unit)) (lv0 ((), (), 0, a0, ((0, (0, ())), (0, (0, ()))), ()))).2.2.1, true, ()) else none)
    else
      (bif ((lk0 ((), (), 0, a0, ((0, (0, ())), (0, (0, ()))), ())) && (tt 2 (k179 (a0.1, ())))) then some ((getR (((), false, ((0, (0, ())), (0, (0, ()))), ()) : (Unit × Bool × KDx0 × Unit)) (lv0 ((), (), 0, a0, ((0, (0, ())), (0, (0, ()))), ()))).2.2.1, (getR (((), false, ((0, (0, ())), (0, (0, ()))), ()) : (Unit × Bool × KDx0 × Unit)) (lv0 ((), (), 0, a0, ((0, (0, ())), (0, (0, ()))), ()))).2.1, ()) else none)))
theorem t118 (v179 : ((Int × (Int × Unit)) × Unit) → Bool) (k179 : ((Int × (Int × Unit)) × Unit) → Bool) (v180 : ((Int × (Int × Unit)) × (Int × (Int × Unit)) × Unit) → KDx9) (k180 : ((Int × (Int × Unit)) × (Int × (Int × Unit)) × Unit) → Bool) (v181 : (Int × Int × Unit) → (Int × (Int × Unit))) (k181 : (Int × Int × Unit) → Bool) (lv0 : (Unit × Unit × Int × KDx0 × KDx0 × Unit) → ((Unit × Unit × KDx0 × KDx0 × Unit) ⊕ (Unit × Bool × KDx0 × Unit))) (lk0 : (Unit × Unit × Int × KDx0 × KDx0 × Unit) → Bool) (a0 : KDx0) : fnT (CxL Tryz.Θ (kOf [(179, sm [KTx8] .bool v179 k179), (180, sm [KTx8, KTx8] KTx10 v180 k180), (181, sm [(.int .u64), (.int .u64)] KTx8 v181 k181)]) (lOf [(0, orc 57 26 0 hd118_0 ys118_0 lv0 lk0)])) Tryz.f118 KTx11 [⟨(.pair KTx8 KTx8), a0⟩] = S118 v179 k179 v180 k180 v181 k181 lv0 lk0 a0 := by kernel_rfl
noncomputable def S68 (v118 : (KDx0 × Unit) → (KDx0 × (Bool × Unit))) (k118 : (KDx0 × Unit) → Bool) (a0 : KDx0) : Option Bool :=
  (bif (v118 (a0, ())).2.1 then
    (bif (tt 1 (k118 (a0, ()))) then some (((decide ((v118 (a0, ())).1.1.1 = a0.1.1)) && (tt 1 (decide ((v118 (a0, ())).1.1.2.1 = a0.1.2.1)))) && ((decide ((v118 (a0, ())).1.2.1 = a0.2.1)) && (tt 1 (decide ((v118 (a0, ())).1.2.2.1 = a0.2.2.1))))) else none)
  else
    (bif (tt 1 (k118 (a0, ()))) then some false else none))
theorem t68 (v118 : (KDx0 × Unit) → (KDx0 × (Bool × Unit))) (k118 : (KDx0 × Unit) → Bool) (a0 : KDx0) : fnT (CxL Tryz.Θ (kOf [(118, sm [(.pair KTx8 KTx8)] KTx11 v118 k118)]) (lOf [])) Tryz.f68 .bool [⟨(.pair KTx8 KTx8), a0⟩] = S68 v118 k118 a0 := by kernel_rfl
noncomputable def S33 (v68 : (KDx0 × Unit) → Bool) (k68 : (KDx0 × Unit) → Bool) (a0 : (Int × (KDx0 × KDx1))) : Option Bool :=
  (bif ((decide (a0.1 = 0)) && ((((decide (a0.2.1.1.1 = 0)) && (tt 1 (decide (a0.2.1.1.2.1 = 0)))) && ((decide (a0.2.1.2.1 = 0)) && (tt 1 (decide (a0.2.1.2.2.1 = 0))))) && ((decide (a0.2.2.1 = 0)) && ((decide (a0.2.2.2.1 = 0)) && (tt 1 (decide (a0.2.2.2.2.1 = 0))))))) then
    some true
  else
    (bif (decide (a0.1 ≥ 1)) then
      (bif (decide (a0.1 ≤ 10)) then
        (bif (v68 (a0.2.1, ())) then
          (bif (decide (a0.2.2.1 ≥ 0)) then
            (bif (decide (a0.2.2.1 ≤ 1048576)) then
              (bif (decide (a0.2.2.2.1 ≥ 0)) then
                (bif (decide (a0.2.2.2.1 ≤ 1099511627776)) then
                  (bif (decide (a0.2.2.2.2.1 ≥ 0)) then
                    (bif (tt 1 (k68 (a0.2.1, ()))) then some (decide (a0.2.2.2.2.1 ≤ 4096)) else none)
                  else
                    (bif (tt 1 (k68 (a0.2.1, ()))) then some false else none))
                else
                  (bif (tt 1 (k68 (a0.2.1, ()))) then some false else none))
              else
                (bif (tt 1 (k68 (a0.2.1, ()))) then some false else none))
            else
              (bif (tt 1 (k68 (a0.2.1, ()))) then some false else none))
          else
            (bif (tt 1 (k68 (a0.2.1, ()))) then some false else none))
        else
          (bif (tt 1 (k68 (a0.2.1, ()))) then some false else none))
      else
        some false)
    else
      some false))
theorem t33 (v68 : (KDx0 × Unit) → Bool) (k68 : (KDx0 × Unit) → Bool) (a0 : (Int × (KDx0 × KDx1))) : fnT (CxL Tryz.Θ (kOf [(68, sm [(.pair KTx8 KTx8)] .bool v68 k68)]) (lOf [])) Tryz.f33 .bool [⟨KTx16, a0⟩] = S33 v68 k68 a0 := by kernel_rfl
def hd12_0 : List It := [.pt 1 ⟨0, [0]⟩, .sl 3 (.int .i64), .bl 0 KTx22]
def ys12_0 : Ways := [((.exit 0), [.pt 1 ⟨0, [0]⟩, .bl 0 KTx22]), (.ret, [.sl 2 .bool])]
def hd12_2 : List It := [.pt 1 ⟨0, [0]⟩, .sl 4 (.int .i64), .bl 0 KTx22]
def ys12_2 : Ways := [((.exit 2), [.pt 1 ⟨0, [0]⟩, .bl 0 KTx22]), (.ret, [.sl 2 .bool])]
def hd12_6 : List It := [.pt 1 ⟨0, [0]⟩, .sl 6 (.int .i64), .sl 7 (.int .i64), .bl 0 KTx22]
def ys12_6 : Ways := [((.exit 6), [.pt 1 ⟨0, [0]⟩, .sl 6 (.int .i64), .bl 0 KTx22]), (.ret, [.sl 2 .bool])]
def hd12_4 : List It := [.pt 1 ⟨0, [0]⟩, .sl 6 (.int .i64), .bl 0 KTx22]
def ys12_4 : Ways := [((.exit 4), [.pt 1 ⟨0, [0]⟩, .bl 0 KTx22]), (.ret, [.sl 2 .bool])]
noncomputable def R12_0 (v33 : ((Int × (KDx0 × KDx1)) × Unit) → Bool) (k33 : ((Int × (KDx0 × KDx1)) × Unit) → Bool) (lv0 : (Unit × Int × KDx6 × Unit) → ((Unit × KDx6 × Unit) ⊕ (Bool × Unit))) (lk0 : (Unit × Int × KDx6 × Unit) → Bool) (lv2 : (Unit × Int × KDx6 × Unit) → ((Unit × KDx6 × Unit) ⊕ (Bool × Unit))) (lk2 : (Unit × Int × KDx6 × Unit) → Bool) (lv6 : (Unit × Int × Int × KDx6 × Unit) → ((Unit × Int × KDx6 × Unit) ⊕ (Bool × Unit))) (lk6 : (Unit × Int × Int × KDx6 × Unit) → Bool) (lv4 : (Unit × Int × KDx6 × Unit) → ((Unit × KDx6 × Unit) ⊕ (Bool × Unit))) (lk4 : (Unit × Int × KDx6 × Unit) → Bool) (x0 : Unit) (x1 : Int) (x2 : KDx6) : Option ((Unit × Int × KDx6 × Unit) ⊕ ((Unit × KDx6 × Unit) ⊕ (Bool × Unit))) :=
  (bif (decide (x1 < 11)) then
    (bif (!(v33 ((x2.1.getD (Int.toNat x1) (0, (((0, (0, ())), (0, (0, ()))), (0, (0, (0, ())))))), ()))) then
      (bif (tt 1 ((k33 ((x2.1.getD (Int.toNat x1) (0, (((0, (0, ())), (0, (0, ()))), (0, (0, (0, ())))))), ())) && ((tt 1 (decide (((Int.toNat x1) : Nat) < 11))) && (tt 1 ((decide (0 ≤ x1)) && (decide (x1 < 11))))))) then some (.inr (.inr (false, ()))) else none)
    else
      (bif (tt 1 ((k33 ((x2.1.getD (Int.toNat x1) (0, (((0, (0, ())), (0, (0, ()))), (0, (0, (0, ())))))), ())) && ((tt 1 (decide (((Int.toNat x1) : Nat) < 11))) && (tt 1 ((decide (0 ≤ x1)) && (decide (x1 < 11))))))) then some (.inl ((), (IntKind.wrap .i64 (x1 + 1)), x2, ())) else none))
  else
    some (.inr (.inl ((), x2, ()))))
theorem r12_0 (v33 : ((Int × (KDx0 × KDx1)) × Unit) → Bool) (k33 : ((Int × (KDx0 × KDx1)) × Unit) → Bool) (lv0 : (Unit × Int × KDx6 × Unit) → ((Unit × KDx6 × Unit) ⊕ (Bool × Unit))) (lk0 : (Unit × Int × KDx6 × Unit) → Bool) (lv2 : (Unit × Int × KDx6 × Unit) → ((Unit × KDx6 × Unit) ⊕ (Bool × Unit))) (lk2 : (Unit × Int × KDx6 × Unit) → Bool) (lv6 : (Unit × Int × Int × KDx6 × Unit) → ((Unit × Int × KDx6 × Unit) ⊕ (Bool × Unit))) (lk6 : (Unit × Int × Int × KDx6 × Unit) → Bool) (lv4 : (Unit × Int × KDx6 × Unit) → ((Unit × KDx6 × Unit) ⊕ (Bool × Unit))) (lk4 : (Unit × Int × KDx6 × Unit) → Bool) (x0 : Unit) (x1 : Int) (x2 : KDx6) : codeT (CxL Tryz.Θ (kOf [(33, sm [KTx16] .bool v33 k33)]) (lOf [(0, orc 142 25 0 hd12_0 ys12_0 lv0 lk0), (2, orc 142 49 2 hd12_2 ys12_2 lv2 lk2), (6, orc 142 97 6 hd12_6 ys12_6 lv6 lk6), (4, orc 142 73 4 hd12_4 ys12_4 lv4 lk4)])) (loopB 0 (bodyF Tryz.f12)) (mkS 142 25 hd12_0 (x0, x1, x2, ())) (leafR 142 hd12_0 ys12_0) = R12_0 v33 k33 lv0 lk0 lv2 lk2 lv6 lk6 lv4 lk4 x0 x1 x2 := by kernel_rfl
noncomputable def R12_2 (v33 : ((Int × (KDx0 × KDx1)) × Unit) → Bool) (k33 : ((Int × (KDx0 × KDx1)) × Unit) → Bool) (lv0 : (Unit × Int × KDx6 × Unit) → ((Unit × KDx6 × Unit) ⊕ (Bool × Unit))) (lk0 : (Unit × Int × KDx6 × Unit) → Bool) (lv2 : (Unit × Int × KDx6 × Unit) → ((Unit × KDx6 × Unit) ⊕ (Bool × Unit))) (lk2 : (Unit × Int × KDx6 × Unit) → Bool) (lv6 : (Unit × Int × Int × KDx6 × Unit) → ((Unit × Int × KDx6 × Unit) ⊕ (Bool × Unit))) (lk6 : (Unit × Int × Int × KDx6 × Unit) → Bool) (lv4 : (Unit × Int × KDx6 × Unit) → ((Unit × KDx6 × Unit) ⊕ (Bool × Unit))) (lk4 : (Unit × Int × KDx6 × Unit) → Bool) (x0 : Unit) (x1 : Int) (x2 : KDx6) : Option ((Unit × Int × KDx6 × Unit) ⊕ ((Unit × KDx6 × Unit) ⊕ (Bool × Unit))) :=
  (bif (decide (x1 < 64)) then
    (bif (decide ((x2.2.1.getD (Int.toNat x1) (0, (0, ((0, (((0, (0, ())), (0, (0, ()))), (0, (0, (0, ()))))), ())))).1 < 0)) then
      (bif (tt 1 ((tt 1 (decide (((Int.toNat x1) : Nat) < 64))) && (tt 1 ((decide (0 ≤ x1)) && (decide (x1 < 64)))))) then some (.inr (.inr (false, ()))) else none)
    else
      (bif (decide ((x2.2.1.getD (Int.toNat x1) (0, (0, ((0, (((0, (0, ())), (0, (0, ()))), (0, (0, (0, ()))))), ())))).1 > 2)) then
        (bif (tt 1 ((tt 1 (decide (((Int.toNat x1) : Nat) < 64))) && (tt 1 ((decide (0 ≤ x1)) && (decide (x1 < 64)))))) then some (.inr (.inr (false, ()))) else none)
      else
        (bif (decide ((x2.2.1.getD (Int.toNat x1) (0, (0, ((0, (((0, (0, ())), (0, (0, ()))), (0, (0, (0, ()))))), ())))).2.1 < 0)) then
          (bif (tt 1 ((tt 1 (decide (((Int.toNat x1) : Nat) < 64))) && (tt 1 ((decide (0 ≤ x1)) && (decide (x1 < 64)))))) then some (.inr (.inr (false, ()))) else none)
        else
          (bif (decide ((x2.2.1.getD (Int.toNat x1) (0, (0, ((0, (((0, (0, ())), (0, (0, ()))), (0, (0, (0, ()))))), ())))).2.1 > 255)) then
            (bif (tt 1 ((tt 1 (decide (((Int.toNat x1) : Nat) < 64))) && (tt 1 ((decide (0 ≤ x1)) && (decide (x1 < 64)))))) then some (.inr (.inr (false, ()))) else none)
          else
            (bif (!(v33 ((x2.2.1.getD (Int.toNat x1) (0, (0, ((0, (((0, (0, ())), (0, (0, ()))), (0, (0, (0, ()))))), ())))).2.2.1, ()))) then
              (bif (tt 1 ((k33 ((x2.2.1.getD (Int.toNat x1) (0, (0, ((0, (((0, (0, ())), (0, (0, ()))), (0, (0, (0, ()))))), ())))).2.2.1, ())) && ((tt 1 (decide (((Int.toNat x1) : Nat) < 64))) && (tt 1 ((decide (0 ≤ x1)) && (decide (x1 < 64))))))) then some (.inr (.inr (false, ()))) else none)
            else
              (bif (decide ((x2.2.1.getD (Int.toNat x1) (0, (0, ((0, (((0, (0, ())), (0, (0, ()))), (0, (0, (0, ()))))), ())))).1 = 2)) then
                (bif (decide ((x2.2.1.getD (Int.toNat x1) (0, (0, ((0, (((0, (0, ())), (0, (0, ()))), (0, (0, (0, ()))))), ())))).2.2.1.1 = 0)) then
                  (bif (tt 1 ((k33 ((x2.2.1.getD (Int.toNat x1) (0, (0, ((0, (((0, (0, ())), (0, (0, ()))), (0, (0, (0, ()))))), ())))).2.2.1, ())) && ((tt 1 (decide (((Int.toNat x1) : Nat) < 64))) && (tt 1 ((decide (0 ≤ x1)) && (decide (x1 < 64))))))) then some (.inr (.inr (false, ()))) else none)
                else
                  (bif (!(decide ((x2.2.1.getD (Int.toNat x1) (0, (0, ((0, (((0, (0, ())), (0, (0, ()))), (0, (0, (0, ()))))), ())))).2.1 = 0))) then
                    (bif (tt 1 ((k33 ((x2.2.1.getD (Int.toNat x1) (0, (0, ((0, (((0, (0, ())), (0, (0, ()))), (0, (0, (0, ()))))), ())))).2.2.1, ())) && ((tt 1 (decide (((Int.toNat x1) : Nat) < 64))) && (tt 1 ((decide (0 ≤ x1)) && (decide (x1 < 64))))))) then some (.inr (.inr (false, ()))) else none)
                  else
                    (bif (!(decide ((x2.2.1.getD (Int.toNat x1) (0, (0, ((0, (((0, (0, ())), (0, (0, ()))), (0, (0, (0, ()))))), ())))).1 = 2))) then
                      (bif (!((decide ((x2.2.1.getD (Int.toNat x1) (0, (0, ((0, (((0, (0, ())), (0, (0, ()))), (0, (0, (0, ()))))), ())))).2.2.1.1 = 0)) && ((((decide ((x2.2.1.getD (Int.toNat x1) (0, (0, ((0, (((0, (0, ())), (0, (0, ()))), (0, (0, (0, ()))))), ())))).2.2.1.2.1.1.1 = 0)) && (tt 1 (decide ((x2.2.1.getD (Int.toNat x1) (0, (0, ((0, (((0, (0, ())), (0, (0, ()))), (0, (0, (0, ()))))), ())))).2.2.1.2.1.1.2.1 = 0)))) && ((decide ((x2.2.1.getD (Int.toNat x1) (0, (0, ((0, (((0, (0, ())), (0, (0, ()))), (0, (0, (0, ()))))), ())))).2.2.1.2.1.2.1 = 0)) && (tt 1 (decide ((x2.2.1.getD (Int.toNat x1) (0, (0, ((0, (((0, (0, ())), (0, (0, ()))), (0, (0, (0, ()))))), ())))).2.2.1.2.1.2.2.1 = 0))))) && ((decide ((x2.2.1.getD (Int.toNat x1) (0, (0, ((0, (((0, (0, ())), (0, (0, ()))), (0, (0, (0, ()))))), ())))).2.2.1.2.2.1 = 0)) && ((decide ((x2.2.1.getD (Int.toNat x1) (0, (0, ((0, (((0, (0, ())), (0, (0, ()))), (0, (0, (0, ()))))), ())))).2.2.1.2.2.2.1 = 0)) && (tt 1 (decide ((x2.2.1.getD (Int.toNat x1) (0, (0, ((0, (((0, (0, ())), (0, (0, ()))), (0, (0, (0, ()))))), ())))).2.2.1.2.2.2.2.1 = 0)))))))) then
                        (bif (tt 1 ((k33 ((x2.2.1.getD (Int.toNat x1) (0, (0, ((0, (((0, (0, ())), (0, (0, ()))), (0, (0, (0, ()))))), ())))).2.2.1, ())) && ((tt 1 (decide (((Int.toNat x1) : Nat) < 64))) && (tt 1 ((decide (0 ≤ x1)) && (decide (x1 < 64))))))) then some (.inr (.inr (false, ()))) else none)
                      else
                        (bif (decide ((x2.2.1.getD (Int.toNat x1) (0, (0, ((0, (((0, (0, ())), (0, (0, ()))), (0, (0, (0, ()))))), ())))).1 = 0)) then
                          (bif (!(decide ((x2.2.1.getD (Int.toNat x1) (0, (0, ((0, (((0, (0, ())), (0, (0, ()))), (0, (0, (0, ()))))), ())))).2.1 = 0))) then
                            (bif (tt 1 ((k33 ((x2.2.1.getD (Int.toNat x1) (0, (0, ((0, (((0, (0, ())), (0, (0, ()))), (0, (0, (0, ()))))), ())))).2.2.1, ())) && ((tt 1 (decide (((Int.toNat x1) : Nat) < 64))) && (tt 1 ((decide (0 ≤ x1)) && (decide (x1 < 64))))))) then some (.inr (.inr (false, ()))) else none)
                          else
                            (bif (tt 1 ((k33 ((x2.2.1.getD (Int.toNat x1) (0, (0, ((0, (((0, (0, ())), (0, (0, ()))), (0, (0, (0, ()))))), ())))).2.2.1, ())) && ((tt 1 (decide (((Int.toNat x1) : Nat) < 64))) && (tt 1 ((decide (0 ≤ x1)) && (decide (x1 < 64))))))) then some (.inl ((), (IntKind.wrap .i64 (x1 + 1)), x2, ())) else none))
                        else
                          (bif (tt 1 ((k33 ((x2.2.1.getD (Int.toNat x1) (0, (0, ((0, (((0, (0, ())), (0, (0, ()))), (0, (0, (0, ()))))), ())))).2.2.1, ())) && ((tt 1 (decide (((Int.toNat x1) : Nat) < 64))) && (tt 1 ((decide (0 ≤ x1)) && (decide (x1 < 64))))))) then some (.inl ((), (IntKind.wrap .i64 (x1 + 1)), x2, ())) else none)))
                    else
                      (bif (decide ((x2.2.1.getD (Int.toNat x1) (0, (0, ((0, (((0, (0, ())), (0, (0, ()))), (0, (0, (0, ()))))), ())))).1 = 0)) then
                        (bif (!(decide ((x2.2.1.getD (Int.toNat x1) (0, (0, ((0, (((0, (0, ())), (0, (0, ()))), (0, (0, (0, ()))))), ())))).2.1 = 0))) then
                          (bif (tt 1 ((k33 ((x2.2.1.getD (Int.toNat x1) (0, (0, ((0, (((0, (0, ())), (0, (0, ()))), (0, (0, (0, ()))))), ())))).2.2.1, ())) && ((tt 1 (decide (((Int.toNat x1) : Nat) < 64))) && (tt 1 ((decide (0 ≤ x1)) && (decide (x1 < 64))))))) then some (.inr (.inr (false, ()))) else none)
                        else
                          (bif (tt 1 ((k33 ((x2.2.1.getD (Int.toNat x1) (0, (0, ((0, (((0, (0, ())), (0, (0, ()))), (0, (0, (0, ()))))), ())))).2.2.1, ())) && ((tt 1 (decide (((Int.toNat x1) : Nat) < 64))) && (tt 1 ((decide (0 ≤ x1)) && (decide (x1 < 64))))))) then some (.inl ((), (IntKind.wrap .i64 (x1 + 1)), x2, ())) else none))
                      else
                        (bif (tt 1 ((k33 ((x2.2.1.getD (Int.toNat x1) (0, (0, ((0, (((0, (0, ())), (0, (0, ()))), (0, (0, (0, ()))))), ())))).2.2.1, ())) && ((tt 1 (decide (((Int.toNat x1) : Nat) < 64))) && (tt 1 ((decide (0 ≤ x1)) && (decide (x1 < 64))))))) then some (.inl ((), (IntKind.wrap .i64 (x1 + 1)), x2, ())) else none)))))
              else
                (bif (!(decide ((x2.2.1.getD (Int.toNat x1) (0, (0, ((0, (((0, (0, ())), (0, (0, ()))), (0, (0, (0, ()))))), ())))).1 = 2))) then
                  (bif (!((decide ((x2.2.1.getD (Int.toNat x1) (0, (0, ((0, (((0, (0, ())), (0, (0, ()))), (0, (0, (0, ()))))), ())))).2.2.1.1 = 0)) && ((((decide ((x2.2.1.getD (Int.toNat x1) (0, (0, ((0, (((0, (0, ())), (0, (0, ()))), (0, (0, (0, ()))))), ())))).2.2.1.2.1.1.1 = 0)) && (tt 1 (decide ((x2.2.1.getD (Int.toNat x1) (0, (0, ((0, (((0, (0, ())), (0, (0, ()))), (0, (0, (0, ()))))), ())))).2.2.1.2.1.1.2.1 = 0)))) && ((decide ((x2.2.1.getD (Int.toNat x1) (0, (0, ((0, (((0, (0, ())), (0, (0, ()))), (0, (0, (0, ()))))), ())))).2.2.1.2.1.2.1 = 0)) && (tt 1 (decide ((x2.2.1.getD (Int.toNat x1) (0, (0, ((0, (((0, (0, ())), (0, (0, ()))), (0, (0, (0, ()))))), ())))).2.2.1.2.1.2.2.1 = 0))))) && ((decide ((x2.2.1.getD (Int.toNat x1) (0, (0, ((0, (((0, (0, ())), (0, (0, ()))), (0, (0, (0, ()))))), ())))).2.2.1.2.2.1 = 0)) && ((decide ((x2.2.1.getD (Int.toNat x1) (0, (0, ((0, (((0, (0, ())), (0, (0, ()))), (0, (0, (0, ()))))), ())))).2.2.1.2.2.2.1 = 0)) && (tt 1 (decide ((x2.2.1.getD (Int.toNat x1) (0, (0, ((0, (((0, (0, ())), (0, (0, ()))), (0, (0, (0, ()))))), ())))).2.2.1.2.2.2.2.1 = 0)))))))) then
                    (bif (tt 1 ((k33 ((x2.2.1.getD (Int.toNat x1) (0, (0, ((0, (((0, (0, ())), (0, (0, ()))), (0, (0, (0, ()))))), ())))).2.2.1, ())) && ((tt 1 (decide (((Int.toNat x1) : Nat) < 64))) && (tt 1 ((decide (0 ≤ x1)) && (decide (x1 < 64))))))) then some (.inr (.inr (false, ()))) else none)
                  else
                    (bif (decide ((x2.2.1.getD (Int.toNat x1) (0, (0, ((0, (((0, (0, ())), (0, (0, ()))), (0, (0, (0, ()))))), ())))).1 = 0)) then
                      (bif (!(decide ((x2.2.1.getD (Int.toNat x1) (0, (0, ((0, (((0, (0, ())), (0, (0, ()))), (0, (0, (0, ()))))), ())))).2.1 = 0))) then
                        (bif (tt 1 ((k33 ((x2.2.1.getD (Int.toNat x1) (0, (0, ((0, (((0, (0, ())), (0, (0, ()))), (0, (0, (0, ()))))), ())))).2.2.1, ())) && ((tt 1 (decide (((Int.toNat x1) : Nat) < 64))) && (tt 1 ((decide (0 ≤ x1)) && (decide (x1 < 64))))))) then some (.inr (.inr (false, ()))) else none)
                      else
                        (bif (tt 1 ((k33 ((x2.2.1.getD (Int.toNat x1) (0, (0, ((0, (((0, (0, ())), (0, (0, ()))), (0, (0, (0, ()))))), ())))).2.2.1, ())) && ((tt 1 (decide (((Int.toNat x1) : Nat) < 64))) && (tt 1 ((decide (0 ≤ x1)) && (decide (x1 < 64))))))) then some (.inl ((), (IntKind.wrap .i64 (x1 + 1)), x2, ())) else none))
                    else
                      (bif (tt 1 ((k33 ((x2.2.1.getD (Int.toNat x1) (0, (0, ((0, (((0, (0, ())), (0, (0, ()))), (0, (0, (0, ()))))), ())))).2.2.1, ())) && ((tt 1 (decide (((Int.toNat x1) : Nat) < 64))) && (tt 1 ((decide (0 ≤ x1)) && (decide (x1 < 64))))))) then some (.inl ((), (IntKind.wrap .i64 (x1 + 1)), x2, ())) else none)))
                else
                  (bif (decide ((x2.2.1.getD (Int.toNat x1) (0, (0, ((0, (((0, (0, ())), (0, (0, ()))), (0, (0, (0, ()))))), ())))).1 = 0)) then
                    (bif (!(decide ((x2.2.1.getD (Int.toNat x1) (0, (0, ((0, (((0, (0, ())), (0, (0, ()))), (0, (0, (0, ()))))), ())))).2.1 = 0))) then
                      (bif (tt 1 ((k33 ((x2.2.1.getD (Int.toNat x1) (0, (0, ((0, (((0, (0, ())), (0, (0, ()))), (0, (0, (0, ()))))), ())))).2.2.1, ())) && ((tt 1 (decide (((Int.toNat x1) : Nat) < 64))) && (tt 1 ((decide (0 ≤ x1)) && (decide (x1 < 64))))))) then some (.inr (.inr (false, ()))) else none)
                    else
                      (bif (tt 1 ((k33 ((x2.2.1.getD (Int.toNat x1) (0, (0, ((0, (((0, (0, ())), (0, (0, ()))), (0, (0, (0, ()))))), ())))).2.2.1, ())) && ((tt 1 (decide (((Int.toNat x1) : Nat) < 64))) && (tt 1 ((decide (0 ≤ x1)) && (decide (x1 < 64))))))) then some (.inl ((), (IntKind.wrap .i64 (x1 + 1)), x2, ())) else none))
                  else
                    (bif (tt 1 ((k33 ((x2.2.1.getD (Int.toNat x1) (0, (0, ((0, (((0, (0, ())), (0, (0, ()))), (0, (0, (0, ()))))), ())))).2.2.1, ())) && ((tt 1 (decide (((Int.toNat x1) : Nat) < 64))) && (tt 1 ((decide (0 ≤ x1)) && (decide (x1 < 64))))))) then some (.inl ((), (IntKind.wrap .i64 (x1 + 1)), x2, ())) else none)))))))))
  else
    some (.inr (.inl ((), x2, ()))))
theorem r12_2 (v33 : ((Int × (KDx0 × KDx1)) × Unit) → Bool) (k33 : ((Int × (KDx0 × KDx1)) × Unit) → Bool) (lv0 : (Unit × Int × KDx6 × Unit) → ((Unit × KDx6 × Unit) ⊕ (Bool × Unit))) (lk0 : (Unit × Int × KDx6 × Unit) → Bool) (lv2 : (Unit × Int × KDx6 × Unit) → ((Unit × KDx6 × Unit) ⊕ (Bool × Unit))) (lk2 : (Unit × Int × KDx6 × Unit) → Bool) (lv6 : (Unit × Int × Int × KDx6 × Unit) → ((Unit × Int × KDx6 × Unit) ⊕ (Bool × Unit))) (lk6 : (Unit × Int × Int × KDx6 × Unit) → Bool) (lv4 : (Unit × Int × KDx6 × Unit) → ((Unit × KDx6 × Unit) ⊕ (Bool × Unit))) (lk4 : (Unit × Int × KDx6 × Unit) → Bool) (x0 : Unit) (x1 : Int) (x2 : KDx6) : codeT (CxL Tryz.Θ (kOf [(33, sm [KTx16] .bool v33 k33)]) (lOf [(0, orc 142 25 0 hd12_0 ys12_0 lv0 lk0), (2, orc 142 49 2 hd12_2 ys12_2 lv2 lk2), (6, orc 142 97 6 hd12_6 ys12_6 lv6 lk6), (4, orc 142 73 4 hd12_4 ys12_4 lv4 lk4)])) (loopB 2 (bodyF Tryz.f12)) (mkS 142 49 hd12_2 (x0, x1, x2, ())) (leafR 142 hd12_2 ys12_2) = R12_2 v33 k33 lv0 lk0 lv2 lk2 lv6 lk6 lv4 lk4 x0 x1 x2 := by kernel_rfl
noncomputable def R12_6 (v33 : ((Int × (KDx0 × KDx1)) × Unit) → Bool) (k33 : ((Int × (KDx0 × KDx1)) × Unit) → Bool) (lv0 : (Unit × Int × KDx6 × Unit) → ((Unit × KDx6 × Unit) ⊕ (Bool × Unit))) (lk0 : (Unit × Int × KDx6 × Unit) → Bool) (lv2 : (Unit × Int × KDx6 × Unit) → ((Unit × KDx6 × Unit) ⊕ (Bool × Unit))) (lk2 : (Unit × Int × KDx6 × Unit) → Bool) (lv6 : (Unit × Int × Int × KDx6 × Unit) → ((Unit × Int × KDx6 × Unit) ⊕ (Bool × Unit))) (lk6 : (Unit × Int × Int × KDx6 × Unit) → Bool) (lv4 : (Unit × Int × KDx6 × Unit) → ((Unit × KDx6 × Unit) ⊕ (Bool × Unit))) (lk4 : (Unit × Int × KDx6 × Unit) → Bool) (x0 : Unit) (x1 : Int) (x2 : Int) (x3 : KDx6) : Option ((Unit × Int × Int × KDx6 × Unit) ⊕ ((Unit × Int × KDx6 × Unit) ⊕ (Bool × Unit))) :=
  (bif (decide (x2 < x1)) then
    (bif (decide ((x3.2.2.2.1.getD (Int.toNat x2) 0) = (x3.2.2.2.1.getD (Int.toNat x1) 0))) then
      (bif (tt 2 (((decide (0 ≤ x1)) && (decide (x1 < ((x3.2.2.2.1.length : Nat) : Int)))) && (tt 1 ((decide (0 ≤ x2)) && (decide (x2 < ((x3.2.2.2.1.length : Nat) : Int))))))) then some (.inr (.inr (false, ()))) else none)
    else
      (bif (tt 2 (((decide (0 ≤ x1)) && (decide (x1 < ((x3.2.2.2.1.length : Nat) : Int)))) && (tt 1 ((decide (0 ≤ x2)) && (decide (x2 < ((x3.2.2.2.1.length : Nat) : Int))))))) then some (.inl ((), x1, (IntKind.wrap .i64 (x2 + 1)), x3, ())) else none))
  else
    some (.inr (.inl ((), x1, x3, ()))))
theorem r12_6 (v33 : ((Int × (KDx0 × KDx1)) × Unit) → Bool) (k33 : ((Int × (KDx0 × KDx1)) × Unit) → Bool) (lv0 : (Unit × Int × KDx6 × Unit) → ((Unit × KDx6 × Unit) ⊕ (Bool × Unit))) (lk0 : (Unit × Int × KDx6 × Unit) → Bool) (lv2 : (Unit × Int × KDx6 × Unit) → ((Unit × KDx6 × Unit) ⊕ (Bool × Unit))) (lk2 : (Unit × Int × KDx6 × Unit) → Bool) (lv6 : (Unit × Int × Int × KDx6 × Unit) → ((Unit × Int × KDx6 × Unit) ⊕ (Bool × Unit))) (lk6 : (Unit × Int × Int × KDx6 × Unit) → Bool) (lv4 : (Unit × Int × KDx6 × Unit) → ((Unit × KDx6 × Unit) ⊕ (Bool × Unit))) (lk4 : (Unit × Int × KDx6 × Unit) → Bool) (x0 : Unit) (x1 : Int) (x2 : Int) (x3 : KDx6) : codeT (CxL Tryz.Θ (kOf [(33, sm [KTx16] .bool v33 k33)]) (lOf [(0, orc 142 25 0 hd12_0 ys12_0 lv0 lk0), (2, orc 142 49 2 hd12_2 ys12_2 lv2 lk2), (6, orc 142 97 6 hd12_6 ys12_6 lv6 lk6), (4, orc 142 73 4 hd12_4 ys12_4 lv4 lk4)])) (loopB 6 (bodyF Tryz.f12)) (mkS 142 97 hd12_6 (x0, x1, x2, x3, ())) (leafR 142 hd12_6 ys12_6) = R12_6 v33 k33 lv0 lk0 lv2 lk2 lv6 lk6 lv4 lk4 x0 x1 x2 x3 := by kernel_rfl
noncomputable def R12_4 (v33 : ((Int × (KDx0 × KDx1)) × Unit) → Bool) (k33 : ((Int × (KDx0 × KDx1)) × Unit) → Bool) (lv0 : (Unit × Int × KDx6 × Unit) → ((Unit × KDx6 × Unit) ⊕ (Bool × Unit))) (lk0 : (Unit × Int × KDx6 × Unit) → Bool) (lv2 : (Unit × Int × KDx6 × Unit) → ((Unit × KDx6 × Unit) ⊕ (Bool × Unit))) (lk2 : (Unit × Int × KDx6 × Unit) → Bool) (lv6 : (Unit × Int × Int × KDx6 × Unit) → ((Unit × Int × KDx6 × Unit) ⊕ (Bool × Unit))) (lk6 : (Unit × Int × Int × KDx6 × Unit) → Bool) (lv4 : (Unit × Int × KDx6 × Unit) → ((Unit × KDx6 × Unit) ⊕ (Bool × Unit))) (lk4 : (Unit × Int × KDx6 × Unit) → Bool) (x0 : Unit) (x1 : Int) (x2 : KDx6) : Option ((Unit × Int × KDx6 × Unit) ⊕ ((Unit × KDx6 × Unit) ⊕ (Bool × Unit))) :=
  (bif (decide (x1 < ((x2.2.2.2.1.length : Nat) : Int))) then
    (bif (decide ((x2.2.2.2.1.getD (Int.toNat x1) 0) < 1)) then
      (bif (tt 2 ((decide (0 ≤ x1)) && (decide (x1 < ((x2.2.2.2.1.length : Nat) : Int))))) then some (.inr (.inr (false, ()))) else none)
    else
      (bif (decide ((x2.2.2.2.1.getD (Int.toNat x1) 0) > 1099511627776)) then
        (bif (tt 1 (((decide (0 ≤ x1)) && (decide (x1 < ((x2.2.2.2.1.length : Nat) : Int)))) && (tt 1 ((decide (0 ≤ x1)) && (decide (x1 < ((x2.2.2.2.1.length : Nat) : Int))))))) then some (.inr (.inr (false, ()))) else none)
      else
        (bif (isL (lv6 ((), x1, 0, x2, ()))) then
          (bif (tt 1 ((lk6 ((), x1, 0, x2, ())) && (tt 1 (((decide (0 ≤ x1)) && (decide (x1 < ((x2.2.2.2.1.length : Nat) : Int)))) && (tt 1 ((decide (0 ≤ x1)) && (decide (x1 < ((x2.2.2.2.1.length : Nat) : Int))))))))) then some (.inl ((), (IntKind.wrap .i64 ((getL (((), 0, ([], ([], (0, ([], (0, ()))))), ()) : (Unit × Int × KDx6 × Unit)) (lv6 ((), x1, 0, x2, ()))).2.1 + 1)), (getL (((), 0, ([], ([], (0, ([], (0, ()))))), ()) : (Unit × Int × KDx6 × Unit)) (lv6 ((), x1, 0, x2, ()))).2.2.1, ())) else none)
        else
          (bif (tt 1 ((lk6 ((), x1, 0, x2, ())) && (tt 1 (((decide (0 ≤ x1)) && (decide (x1 < ((x2.2.2.2.1.length : Nat) : Int)))) && (tt 1 ((decide (0 ≤ x1)) && (decide (x1 < ((x2.2.2.2.1.length : Nat) : Int))))))))) then some (.inr (.inr ((getR ((false, ()) : (Bool × Unit)) (lv6 ((), x1, 0, x2, ()))).1, ()))) else none))))
  else
    some (.inr (.inl ((), x2, ()))))
theorem r12_4 (v33 : ((Int × (KDx0 × KDx1)) × Unit) → Bool) (k33 : ((Int × (KDx0 × KDx1)) × Unit) → Bool) (lv0 : (Unit × Int × KDx6 × Unit) → ((Unit × KDx6 × Unit) ⊕ (Bool × Unit))) (lk0 : (Unit × Int × KDx6 × Unit) → Bool) (lv2 : (Unit × Int × KDx6 × Unit) → ((Unit × KDx6 × Unit) ⊕ (Bool × Unit))) (lk2 : (Unit × Int × KDx6 × Unit) → Bool) (lv6 : (Unit × Int × Int × KDx6 × Unit) → ((Unit × Int × KDx6 × Unit) ⊕ (Bool × Unit))) (lk6 : (Unit × Int × Int × KDx6 × Unit) → Bool) (lv4 : (Unit × Int × KDx6 × Unit) → ((Unit × KDx6 × Unit) ⊕ (Bool × Unit))) (lk4 : (Unit × Int × KDx6 × Unit) → Bool) (x0 : Unit) (x1 : Int) (x2 : KDx6) : codeT (CxL Tryz.Θ (kOf [(33, sm [KTx16] .bool v33 k33)]) (lOf [(0, orc 142 25 0 hd12_0 ys12_0 lv0 lk0), (2, orc 142 49 2 hd12_2 ys12_2 lv2 lk2), (6, orc 142 97 6 hd12_6 ys12_6 lv6 lk6), (4, orc 142 73 4 hd12_4 ys12_4 lv4 lk4)])) (loopB 4 (bodyF Tryz.f12)) (mkS 142 73 hd12_4 (x0, x1, x2, ())) (leafR 142 hd12_4 ys12_4) = R12_4 v33 k33 lv0 lk0 lv2 lk2 lv6 lk6 lv4 lk4 x0 x1 x2 := by kernel_rfl
noncomputable def S12 (v33 : ((Int × (KDx0 × KDx1)) × Unit) → Bool) (k33 : ((Int × (KDx0 × KDx1)) × Unit) → Bool) (lv0 : (Unit × Int × KDx6 × Unit) → ((Unit × KDx6 × Unit) ⊕ (Bool × Unit))) (lk0 : (Unit × Int × KDx6 × Unit) → Bool) (lv2 : (Unit × Int × KDx6 × Unit) → ((Unit × KDx6 × Unit) ⊕ (Bool × Unit))) (lk2 : (Unit × Int × KDx6 × Unit) → Bool) (lv6 : (Unit × Int × Int × KDx6 × Unit) → ((Unit × Int × KDx6 × Unit) ⊕ (Bool × Unit))) (lk6 : (Unit × Int × Int × KDx6 × Unit) → Bool) (lv4 : (Unit × Int × KDx6 × Unit) → ((Unit × KDx6 × Unit) ⊕ (Bool × Unit))) (lk4 : (Unit × Int × KDx6 × Unit) → Bool) (a0 : KDx6) : Option Bool :=
  (bif (isL (lv0 ((), 0, a0, ()))) then
    (bif (isL (lv2 ((), 0, (getL (((), ([], ([], (0, ([], (0, ()))))), ()) : (Unit × KDx6 × Unit)) (lv0 ((), 0, a0, ()))).2.1, ()))) then
      (bif (isL (lv4 ((), 0, (getL (((), ([], ([], (0, ([], (0, ()))))), ()) : (Unit × KDx6 × Unit)) (lv2 ((), 0, (getL (((), ([], ([], (0, ([], (0, ()))))), ()) : (Unit × KDx6 × Unit)) (lv0 ((), 0, a0, ()))).2.1, ()))).2.1, ()))) then
        (bif (decide ((getL (((), ([], ([], (0, ([], (0, ()))))), ()) : (Unit × KDx6 × Unit)) (lv4 ((), 0, (getL (((), ([], ([], (0, ([], (0, ()))))), ()) : (Unit × KDx6 × Unit)) (lv2 ((), 0, (getL (((), ([], ([], (0, ([], (0, ()))))), ()) : (Unit × KDx6 × Unit)) (lv0 ((), 0, a0, ()))).2.1, ()))).2.1, ()))).2.1.2.2.1 ≥ 0)) then
          (bif (decide ((getL (((), ([], ([], (0, ([], (0, ()))))), ()) : (Unit × KDx6 × Unit)) (lv4 ((), 0, (getL (((), ([], ([], (0, ([], (0, ()))))), ()) : (Unit × KDx6 × Unit)) (lv2 ((), 0, (getL (((), ([], ([], (0, ([], (0, ()))))), ()) : (Unit × KDx6 × Unit)) (lv0 ((), 0, a0, ()))).2.1, ()))).2.1, ()))).2.1.2.2.1 ≤ 1048576)) then
            (bif (decide ((getL (((), ([], ([], (0, ([], (0, ()))))), ()) : (Unit × KDx6 × Unit)) (lv4 ((), 0, (getL (((), ([], ([], (0, ([], (0, ()))))), ()) : (Unit × KDx6 × Unit)) (lv2 ((), 0, (getL (((), ([], ([], (0, ([], (0, ()))))), ()) : (Unit × KDx6 × Unit)) (lv0 ((), 0, a0, ()))).2.1, ()))).2.1, ()))).2.1.2.2.2.2.1 ≥ 0)) then
              (bif ((lk4 ((), 0, (getL (((), ([], ([], (0, ([], (0, ()))))), ()) : (Unit × KDx6 × Unit)) (lv2 ((), 0, (getL (((), ([], ([], (0, ([], (0, ()))))), ()) : (Unit × KDx6 × Unit)) (lv0 ((), 0, a0, ()))).2.1, ()))).2.1, ())) && (tt 1 ((lk2 ((), 0, (getL (((), ([], ([], (0, ([], (0, ()))))), ()) : (Unit × KDx6 × Unit)) (lv0 ((), 0, a0, ()))).2.1, ())) && (tt 2 (lk0 ((), 0, a0, ())))))) then some (decide ((getL (((), ([], ([], (0, ([], (0, ()))))), ()) : (Unit × KDx6 × Unit)) (lv4 ((), 0, (getL (((), ([], ([], (0, ([], (0, ()))))), ()) : (Unit × KDx6 × Unit)) (lv2 ((), 0, (getL (((), ([], ([], (0, ([], (0, ()))))), ()) : (Unit × KDx6 × Unit)) (lv0 ((), 0, a0, ()))).2.1, ()))).2.1, ()))).2.1.2.2.2.2.1 ≤ 1099511627776)) else none)
            else
              (bif ((lk4 ((), 0, (getL (((), ([], ([], (0, ([], (0, ()))))), ()) : (Unit × KDx6 × Unit)) (lv2 ((), 0, (getL (((), ([], ([], (0, ([], (0, ()))))), ()) : (Unit × KDx6 × Unit)) (lv0 ((), 0, a0, ()))).2.1, ()))).2.1, ())) && (tt 1 ((lk2 ((), 0, (getL (((), ([], ([], (0, ([], (0, ()))))), ()) : (Unit × KDx6 × Unit)) (lv0 ((), 0, a0, ()))).2.1, ())) && (tt 2 (lk0 ((), 0, a0, ())))))) then some false else none))
          else
            (bif ((lk4 ((), 0, (getL (((), ([], ([], (0, ([], (0, ()))))), ()) : (Unit × KDx6 × Unit)) (lv2 ((), 0, (getL (((), ([], ([], (0, ([], (0, ()))))), ()) : (Unit × KDx6 × Unit)) (lv0 ((), 0, a0, ()))).2.1, ()))).2.1, ())) && (tt 1 ((lk2 ((), 0, (getL (((), ([], ([], (0, ([], (0, ()))))), ()) : (Unit × KDx6 × Unit)) (lv0 ((), 0, a0, ()))).2.1, ())) && (tt 2 (lk0 ((), 0, a0, ())))))) then some false else none))
        else
          (bif ((lk4 ((), 0, (getL (((), ([], ([], (0, ([], (0, ()))))), ()) : (Unit × KDx6 × Unit)) (lv2 ((), 0, (getL (((), ([], ([], (0, ([], (0, ()))))), ()) : (Unit × KDx6 × Unit)) (lv0 ((), 0, a0, ()))).2.1, ()))).2.1, ())) && (tt 1 ((lk2 ((), 0, (getL (((), ([], ([], (0, ([], (0, ()))))), ()) : (Unit × KDx6 × Unit)) (lv0 ((), 0, a0, ()))).2.1, ())) && (tt 2 (lk0 ((), 0, a0, ())))))) then some false else none))
      else
        (bif ((lk4 ((), 0, (getL (((), ([], ([], (0, ([], (0, ()))))), ()) : (Unit × KDx6 × Unit)) (lv2 ((), 0, (getL (((), ([], ([], (0, ([], (0, ()))))), ()) : (Unit × KDx6 × Unit)) (lv0 ((), 0, a0, ()))).2.1, ()))).2.1, ())) && (tt 1 ((lk2 ((), 0, (getL (((), ([], ([], (0, ([], (0, ()))))), ()) : (Unit × KDx6 × Unit)) (lv0 ((), 0, a0, ()))).2.1, ())) && (tt 2 (lk0 ((), 0, a0, ())))))) then some (getR ((false, ()) : (Bool × Unit)) (lv4 ((), 0, (getL (((), ([], ([], (0, ([], (0, ()))))), ()) : (Unit × KDx6 × Unit)) (lv2 ((), 0, (getL (((), ([], ([], (0, ([], (0, ()))))), ()) : (Unit × KDx6 × Unit)) (lv0 ((), 0, a0, ()))).2.1, ()))).2.1, ()))).1 else none))
    else
      (bif ((lk2 ((), 0, (getL (((), ([], ([], (0, ([], (0, ()))))), ()) : (Unit × KDx6 × Unit)) (lv0 ((), 0, a0, ()))).2.1, ())) && (tt 2 (lk0 ((), 0, a0, ())))) then some (getR ((false, ()) : (Bool × Unit)) (lv2 ((), 0, (getL (((), ([], ([], (0, ([], (0, ()))))), ()) : (Unit × KDx6 × Unit)) (lv0 ((), 0, a0, ()))).2.1, ()))).1 else none))
  else
    (bif (tt 1 (lk0 ((), 0, a0, ()))) then some (getR ((false, ()) : (Bool × Unit)) (lv0 ((), 0, a0, ()))).1 else none))
theorem t12 (v33 : ((Int × (KDx0 × KDx1)) × Unit) → Bool) (k33 : ((Int × (KDx0 × KDx1)) × Unit) → Bool) (lv0 : (Unit × Int × KDx6 × Unit) → ((Unit × KDx6 × Unit) ⊕ (Bool × Unit))) (lk0 : (Unit × Int × KDx6 × Unit) → Bool) (lv2 : (Unit × Int × KDx6 × Unit) → ((Unit × KDx6 × Unit) ⊕ (Bool × Unit))) (lk2 : (Unit × Int × KDx6 × Unit) → Bool) (lv6 : (Unit × Int × Int × KDx6 × Unit) → ((Unit × Int × KDx6 × Unit) ⊕ (Bool × Unit))) (lk6 : (Unit × Int × Int × KDx6 × Unit) → Bool) (lv4 : (Unit × Int × KDx6 × Unit) → ((Unit × KDx6 × Unit) ⊕ (Bool × Unit))) (lk4 : (Unit × Int × KDx6 × Unit) → Bool) (a0 : KDx6) : fnT (CxL Tryz.Θ (kOf [(33, sm [KTx16] .bool v33 k33)]) (lOf [(0, orc 142 25 0 hd12_0 ys12_0 lv0 lk0), (2, orc 142 49 2 hd12_2 ys12_2 lv2 lk2), (6, orc 142 97 6 hd12_6 ys12_6 lv6 lk6), (4, orc 142 73 4 hd12_4 ys12_4 lv4 lk4)])) Tryz.f12 .bool [⟨KTx22, a0⟩] = S12 v33 k33 lv0 lk0 lv2 lk2 lv6 lk6 lv4 lk4 a0 := by kernel_rfl
def hd13_0 : List It := [.ow 15 1 KTx22, .ow 16 2 (.int .i64), .sl 56 KTx23, .sl 57 (.int .i64), .sl 58 (.int .i64)]
def ys13_0 : Ways := [((.exit 0), [.ow 15 1 KTx22, .ow 16 2 (.int .i64)])]
noncomputable def R13_0 (v16 : (KDx30 × Unit) → (Int × (Int × Unit))) (k16 : (KDx30 × Unit) → Bool) (v26 : ((KDx6 × KDx31) × Unit) → (KDx32 × (Int × Unit))) (k26 : ((KDx6 × KDx31) × Unit) → Bool) (v34 : (KDx30 × Unit) → (List Bool)) (k34 : (KDx30 × Unit) → Bool) (v35 : (KDx6 × Unit) → KDx6) (k35 : (KDx6 × Unit) → Bool) (lv0 : ((List KDx6) × (List Int) × KDx32 × Int × Int × Unit) → ((List KDx6) × (List Int) × Unit)) (lk0 : ((List KDx6) × (List Int) × KDx32 × Int × Int × Unit) → Bool) (x0 : (List KDx6)) (x1 : (List Int)) (x2 : KDx32) (x3 : Int) (x4 : Int) : Option (((List KDx6) × (List Int) × KDx32 × Int × Int × Unit) ⊕ ((List KDx6) × (List Int) × Unit)) :=
  (bif (decide (x4 < x3)) then
    (bif (((decide (((0 + (x0.length + 1)) : Nat) ≤ (x0.length + 1))) && (tt 1 (decide (((0 + (x1.length + 1)) : Nat) ≤ (x1.length + 1))))) && (tt 1 ((((tt 1 (decide (((0 + x1.length) : Nat) ≤ x1.length))) && (tt 1 (decide ((x1.length + 1) * 8 ≤ 140737488355328)))) && (((tt 1 (decide (((0 + x0.length) : Nat) ≤ x0.length))) && (tt 1 (decide ((x0.length + 1) * 5864 ≤ 140737488355328)))) && (tt 1 (k35 ((x2.getD (Int.toNat x4) (([], ([], (0, ([], (0, ()))))), (0, ()))).1, ()))))) && (tt 1 ((decide (0 ≤ x4)) && (decide (x4 < ((x2.length : Nat) : Int)))))))) then some (.inl ((sec ([], ([], (0, ([], (0, ()))))) ((sec ([], ([], (0, ([], (0, ()))))) x0 0 x0.length) ++ ([(v35 ((x2.getD (Int.toNat x4) (([], ([], (0, ([], (0, ()))))), (0, ()))).1, ()))] : List KDx6)) 0 (x0.length + 1)), (sec 0 ((sec 0 x1 0 x1.length) ++ ([(x2.getD (Int.toNat x4) (([], ([], (0, ([], (0, ()))))), (0, ()))).2.1] : List Int)) 0 (x1.length + 1)), x2, x3, (IntKind.wrap .i64 (x4 + 1)), ())) else none)
  else
    (bif (tt 1 ((decide (((0 + x0.length) : Nat) ≤ x0.length)) && (tt 1 (decide (((0 + x1.length) : Nat) ≤ x1.length))))) then some (.inr ((sec ([], ([], (0, ([], (0, ()))))) x0 0 x0.length), (sec 0 x1 0 x1.length), ())) else none))
theorem r13_0 (v16 : (KDx30 × Unit) → (Int × (Int × Unit))) (k16 : (KDx30 × Unit) → Bool) (v26 : ((KDx6 × KDx31) × Unit) → (KDx32 × (Int × Unit))) (k26 : ((KDx6 × KDx31) × Unit) → Bool) (v34 : (KDx30 × Unit) → (List Bool)) (k34 : (KDx30 × Unit) → Bool) (v35 : (KDx6 × Unit) → KDx6) (k35 : (KDx6 × Unit) → Bool) (lv0 : ((List KDx6) × (List Int) × KDx32 × Int × Int × Unit) → ((List KDx6) × (List Int) × Unit)) (lk0 : ((List KDx6) × (List Int) × KDx32 × Int × Int × Unit) → Bool) (x0 : (List KDx6)) (x1 : (List Int)) (x2 : KDx32) (x3 : Int) (x4 : Int) : codeT (CxL Tryz.Θ (kOf [(16, sm [(.vsl KTx25)] KTx27 v16 k16), (26, sm [(.pair KTx22 KTx29)] (.tup KTx23 KTx26) v26 k26), (34, sm [(.vsl KTx25)] (.vsl .bool) v34 k34), (35, sm [KTx22] KTx22 v35 k35)]) (lOf [(0, orc 76 25 0 hd13_0 ys13_0 lv0 lk0)])) (loopB 0 (bodyF Tryz.f13)) (mkS 76 25 hd13_0 (x0, x1, x2, x3, x4, ())) (leafR 76 hd13_0 ys13_0) = R13_0 v16 k16 v26 k26 v34 k34 v35 k35 lv0 lk0 x0 x1 x2 x3 x4 := by kernel_rfl
noncomputable def S13 (v16 : (KDx30 × Unit) → (Int × (Int × Unit))) (k16 : (KDx30 × Unit) → Bool) (v26 : ((KDx6 × KDx31) × Unit) → (KDx32 × (Int × Unit))) (k26 : ((KDx6 × KDx31) × Unit) → Bool) (v34 : (KDx30 × Unit) → (List Bool)) (k34 : (KDx30 × Unit) → Bool) (v35 : (KDx6 × Unit) → KDx6) (k35 : (KDx6 × Unit) → Bool) (lv0 : ((List KDx6) × (List Int) × KDx32 × Int × Int × Unit) → ((List KDx6) × (List Int) × Unit)) (lk0 : ((List KDx6) × (List Int) × KDx32 × Int × Int × Unit) → Bool) (a0 : KDx6) (a1 : (List (Int × KDx1))) (a2 : KDx30) (a3 : Int) : Option ((List KDx6) × KDx33) :=
  (bif (!(decide ((v16 (a2, ())).2.1 = 0))) then
    (bif (tt 1 (k16 (a2, ()))) then some ([], [], 32, ()) else none)
  else
    (bif (decide (a3 < 0)) then
      (bif (tt 1 (k16 (a2, ()))) then some ([], [], 32, ()) else none)
    else
      (bif (decide (a3 ≥ ((a2.length : Nat) : Int))) then
        (bif (tt 1 (k16 (a2, ()))) then some ([], [], 32, ()) else none)
      else
        (bif (!((v34 (a2, ())).getD (Int.toNat a3) false)) then
          (bif (((decide (0 ≤ a3)) && (decide (a3 < (((v34 (a2, ())).length : Nat) : Int)))) && ((k34 (a2, ())) && (tt 1 (k16 (a2, ()))))) then some ([], [], 32, ()) else none)
        else
          (bif (!(decide ((v26 ((a0, (a1, (a2, (a3, ())))), ())).2.1 = 0))) then
            (bif ((k26 ((a0, (a1, (a2, (a3, ())))), ())) && (((decide (0 ≤ a3)) && (decide (a3 < (((v34 (a2, ())).length : Nat) : Int)))) && ((k34 (a2, ())) && (tt 1 (k16 (a2, ())))))) then some ([], [], (v26 ((a0, (a1, (a2, (a3, ())))), ())).2.1, ()) else none)
          else
            (bif ((((tt 3 (decide (((0 + (lv0 ([], [], (v26 ((a0, (a1, (a2, (a3, ())))), ())).1, (((v26 ((a0, (a1, (a2, (a3, ())))), ())).1.length : Nat) : Int), 0, ())).2.1.length) : Nat) ≤ (lv0 ([], [], (v26 ((a0, (a1, (a2, (a3, ())))), ())).1, (((v26 ((a0, (a1, (a2, (a3, ())))), ())).1.length : Nat) : Int), 0, ())).2.1.length))) && (tt 2 (decide (((0 + (lv0 ([], [], (v26 ((a0, (a1, (a2, (a3, ())))), ())).1, (((v26 ((a0, (a1, (a2, (a3, ())))), ())).1.length : Nat) : Int), 0, ())).2.1.length) : Nat) ≤ (lv0 ([], [], (v26 ((a0, (a1, (a2, (a3, ())))), ())).1, (((v26 ((a0, (a1, (a2, (a3, ())))), ())).1.length : Nat) : Int), 0, ())).2.1.length)))) && (tt 4 (decide (((0 + (lv0 ([], [], (v26 ((a0, (a1, (a2, (a3, ())))), ())).1, (((v26 ((a0, (a1, (a2, (a3, ())))), ())).1.length : Nat) : Int), 0, ())).2.1.length) : Nat) ≤ (lv0 ([], [], (v26 ((a0, (a1, (a2, (a3, ())))), ())).1, (((v26 ((a0, (a1, (a2, (a3, ())))), ())).1.length : Nat) : Int), 0, ())).2.1.length)))) && (((tt 4 (decide (((0 + (lv0 ([], [], (v26 ((a0, (a1, (a2, (a3, ())))), ())).1, (((v26 ((a0, (a1, (a2, (a3, ())))), ())).1.length : Nat) : Int), 0, ())).1.length) : Nat) ≤ (lv0 ([], [], (v26 ((a0, (a1, (a2, (a3, ())))), ())).1, (((v26 ((a0, (a1, (a2, (a3, ())))), ())).1.length : Nat) : Int), 0, ())).1.length))) && ((tt 2 (decide (((0 + (lv0 ([], [], (v26 ((a0, (a1, (a2, (a3, ())))), ())).1, (((v26 ((a0, (a1, (a2, (a3, ())))), ())).1.length : Nat) : Int), 0, ())).1.length) : Nat) ≤ (lv0 ([], [], (v26 ((a0, (a1, (a2, (a3, ())))), ())).1, (((v26 ((a0, (a1, (a2, (a3, ())))), ())).1.length : Nat) : Int), 0, ())).1.length))) && (tt 4 (decide (((0 + (lv0 ([], [], (v26 ((a0, (a1, (a2, (a3, ())))), ())).1, (((v26 ((a0, (a1, (a2, (a3, ())))), ())).1.length : Nat) : Int), 0, ())).1.length) : Nat) ≤ (lv0 ([], [], (v26 ((a0, (a1, (a2, (a3, ())))), ())).1, (((v26 ((a0, (a1, (a2, (a3, ())))), ())).1.length : Nat) : Int), 0, ())).1.length))))) && ((lk0 ([], [], (v26 ((a0, (a1, (a2, (a3, ())))), ())).1, (((v26 ((a0, (a1, (a2, (a3, ())))), ())).1.length : Nat) : Int), 0, ())) && (tt 1 ((k26 ((a0, (a1, (a2, (a3, ())))), ())) && (((decide (0 ≤ a3)) && (decide (a3 < (((v34 (a2, ())).length : Nat) : Int)))) && ((k34 (a2, ())) && (tt 1 (k16 (a2, ())))))))))) then some ((sec ([], ([], (0, ([], (0, ()))))) (lv0 ([], [], (v26 ((a0, (a1, (a2, (a3, ())))), ())).1, (((v26 ((a0, (a1, (a2, (a3, ())))), ())).1.length : Nat) : Int), 0, ())).1 0 (lv0 ([], [], (v26 ((a0, (a1, (a2, (a3, ())))), ())).1, (((v26 ((a0, (a1, (a2, (a3, ())))), ())).1.length : Nat) : Int), 0, ())).1.length), (sec 0 (lv0 ([], [], (v26 ((a0, (a1, (a2, (a3, ())))), ())).1, (((v26 ((a0, (a1, (a2, (a3, ())))), ())).1.length : Nat) : Int), 0, ())).2.1 0 (lv0 ([], [], (v26 ((a0, (a1, (a2, (a3, ())))), ())).1, (((v26 ((a0, (a1, (a2, (a3, ())))), ())).1.length : Nat) : Int), 0, ())).2.1.length), 0, ()) else none))))))
theorem t13 (v16 : (KDx30 × Unit) → (Int × (Int × Unit))) (k16 : (KDx30 × Unit) → Bool) (v26 : ((KDx6 × KDx31) × Unit) → (KDx32 × (Int × Unit))) (k26 : ((KDx6 × KDx31) × Unit) → Bool) (v34 : (KDx30 × Unit) → (List Bool)) (k34 : (KDx30 × Unit) → Bool) (v35 : (KDx6 × Unit) → KDx6) (k35 : (KDx6 × Unit) → Bool) (lv0 : ((List KDx6) × (List Int) × KDx32 × Int × Int × Unit) → ((List KDx6) × (List Int) × Unit)) (lk0 : ((List KDx6) × (List Int) × KDx32 × Int × Int × Unit) → Bool) (a0 : KDx6) (a1 : (List (Int × KDx1))) (a2 : KDx30) (a3 : Int) : fnT (CxL Tryz.Θ (kOf [(16, sm [(.vsl KTx25)] KTx27 v16 k16), (26, sm [(.pair KTx22 KTx29)] (.tup KTx23 KTx26) v26 k26), (34, sm [(.vsl KTx25)] (.vsl .bool) v34 k34), (35, sm [KTx22] KTx22 v35 k35)]) (lOf [(0, orc 76 25 0 hd13_0 ys13_0 lv0 lk0)])) Tryz.f13 KTx35 [⟨KTx22, a0⟩, ⟨(.vsl KTx24), a1⟩, ⟨(.vsl KTx25), a2⟩, ⟨(.int .i64), a3⟩] = S13 v16 k16 v26 k26 v34 k34 v35 k35 lv0 lk0 a0 a1 a2 a3 := by kernel_rfl
end Go.Proofs
