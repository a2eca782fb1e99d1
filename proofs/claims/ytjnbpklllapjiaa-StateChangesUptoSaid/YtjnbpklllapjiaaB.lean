import Derived.Test.YtjnbpklllapjiaaT
import Derived.Test.YtjnbpklllapjiaaTK
import Derived.Test.YtjnbpklllapjiaaA
import Derived.Test.YtjnbpklllapjiaaGe
namespace Go.Proofs
open Go.GX
set_option linter.unusedVariables false
set_option maxRecDepth 100000
@[reducible] def KD0 : Type := ((Int × (Int × Unit)) × (Int × (Int × Unit)))
@[reducible] def KD1 : Type := (Int × (Int × (Int × Unit)))
@[reducible] def KD2 : Type := (List (Int × (KD0 × KD1)))
@[reducible] def KD3 : Type := ((Int × (KD0 × KD1)) × Unit)
@[reducible] def KD4 : Type := (List (Int × (Int × KD3)))
@[reducible] def KD5 : Type := ((List Int) × (Int × Unit))
@[reducible] def KD6 : Type := (KD2 × (KD4 × (Int × KD5)))
@[reducible] def KT12 : Ty := (.pair (.int .u64) .unit)
@[reducible] def KT13 : Ty := (.pair (.int .u64) KT12)
@[reducible] def KT14 : Ty := (.pair (.int .i64) .unit)
@[reducible] def KT15 : Ty := (.pair (.int .i64) KT14)
@[reducible] def KT16 : Ty := (.pair (.int .i64) KT15)
@[reducible] def KT17 : Ty := (.pair (.pair KT13 KT13) KT16)
@[reducible] def KT18 : Ty := (.pair (.int .i64) KT17)
@[reducible] def KT19 : Ty := (.pair (.int .i64) (.pair KT18 .unit))
@[reducible] def KT20 : Ty := (.pair (.int .i64) KT19)
@[reducible] def KD21 : Type := ((Int × (Int × Unit)) × (Bool × Unit))
@[reducible] def KT22 : Ty := (.tup KT13 (.tup .bool .tnil))
@[reducible] def KT23 : Ty := (.tup (.pair KT13 KT13) (.tup .bool .tnil))
@[reducible] def KT24 : Ty := (.pair (.vsl (.int .i64)) KT14)
@[reducible] def KT25 : Ty := (.pair (.int .i64) KT24)
@[reducible] def KT26 : Ty := (.pair (.arr 64 KT20) KT25)
@[reducible] def KT27 : Ty := (.pair (.arr 11 KT18) KT26)
@[reducible] def KD28 : Type := ((List (Int × (Int × Unit))) × ((List (Int × (Int × Unit))) × Unit))
noncomputable def S59  (a0 : (Int × (Int × Unit))) : Option Bool :=
  some (decide ((iand .u64 a0.1 a0.2.1) = 0))
theorem t59  (a0 : (Int × (Int × Unit))) : fnT (CxL Try.Θ (kOf []) (lOf [])) Try.f59 .bool [⟨KT13, a0⟩] = S59  a0 := by kernel_rfl
def hd61_0 : List It := [.sl 0 (.int .u64), .pt 4 ⟨0, [0]⟩, .sl 5 (.int .u64), .sl 6 (.int .u64), .bl 0 KT13]
def ys61_0 : Ways := [((.exit 0), [.sl 0 (.int .u64), .pt 4 ⟨0, [0]⟩, .sl 6 (.int .u64), .bl 0 KT13])]
noncomputable def R61_0 (lv0 : (Int × Unit × Int × Int × (Int × (Int × Unit)) × Unit) → (Int × Unit × Int × (Int × (Int × Unit)) × Unit)) (lk0 : (Int × Unit × Int × Int × (Int × (Int × Unit)) × Unit) → Bool) (x0 : Int) (x1 : Unit) (x2 : Int) (x3 : Int) (x4 : (Int × (Int × Unit))) : Option ((Int × Unit × Int × Int × (Int × (Int × Unit)) × Unit) ⊕ (Int × Unit × Int × (Int × (Int × Unit)) × Unit)) :=
  (bif (!(decide (x2 = 0))) then some (.inl (x0, (), (ishr .u64 x2 1), (ior .u64 (ishl .u64 x3 1) 1), x4, ())) else some (.inr (x0, (), x3, x4, ())))
theorem r61_0 (lv0 : (Int × Unit × Int × Int × (Int × (Int × Unit)) × Unit) → (Int × Unit × Int × (Int × (Int × Unit)) × Unit)) (lk0 : (Int × Unit × Int × Int × (Int × (Int × Unit)) × Unit) → Bool) (x0 : Int) (x1 : Unit) (x2 : Int) (x3 : Int) (x4 : (Int × (Int × Unit))) : codeT (CxL Try.Θ (kOf []) (lOf [(0, orc 22 25 0 hd61_0 ys61_0 lv0 lk0)])) (loopB 0 (bodyF Try.f61)) (mkS 22 25 hd61_0 (x0, x1, x2, x3, x4, ())) (leafR 22 hd61_0 ys61_0) = R61_0 lv0 lk0 x0 x1 x2 x3 x4 := by kernel_rfl
noncomputable def S61 (lv0 : (Int × Unit × Int × Int × (Int × (Int × Unit)) × Unit) → (Int × Unit × Int × (Int × (Int × Unit)) × Unit)) (lk0 : (Int × Unit × Int × Int × (Int × (Int × Unit)) × Unit) → Bool) (a0 : Int) (a1 : Int) : Option (Int × (Int × Unit)) :=
  (bif (tt 1 (lk0 (a0, (), (ixor .u64 a0 a1), 0, (0, (0, ())), ()))) then some ((iandn .u64 (lv0 (a0, (), (ixor .u64 a0 a1), 0, (0, (0, ())), ())).1 (lv0 (a0, (), (ixor .u64 a0 a1), 0, (0, (0, ())), ())).2.2.1), ((lv0 (a0, (), (ixor .u64 a0 a1), 0, (0, (0, ())), ())).2.2.1, ())) else none)
theorem t61 (lv0 : (Int × Unit × Int × Int × (Int × (Int × Unit)) × Unit) → (Int × Unit × Int × (Int × (Int × Unit)) × Unit)) (lk0 : (Int × Unit × Int × Int × (Int × (Int × Unit)) × Unit) → Bool) (a0 : Int) (a1 : Int) : fnT (CxL Try.Θ (kOf []) (lOf [(0, orc 22 25 0 hd61_0 ys61_0 lv0 lk0)])) Try.f61 KT13 [⟨(.int .u64), a0⟩, ⟨(.int .u64), a1⟩] = S61 lv0 lk0 a0 a1 := by kernel_rfl
noncomputable def S60  (a0 : (Int × (Int × Unit))) (a1 : (Int × (Int × Unit))) : Option KD21 :=
  (bif (!(decide ((iandn .u64 (iandn .u64 (ixor .u64 a0.1 a1.1) a0.2.1) a1.2.1) = 0))) then
    some ((0, (0, ())), false, ())
  else
    some (((iandn .u64 (ior .u64 a0.1 a1.1) (iand .u64 a0.2.1 a1.2.1)), ((iand .u64 a0.2.1 a1.2.1), ())), true, ()))
theorem t60  (a0 : (Int × (Int × Unit))) (a1 : (Int × (Int × Unit))) : fnT (CxL Try.Θ (kOf []) (lOf [])) Try.f60 KT22 [⟨KT13, a0⟩, ⟨KT13, a1⟩] = S60  a0 a1 := by kernel_rfl
def hd54_0 : List It := [.pt 1 ⟨0, [0]⟩, .pt 2 ⟨1, [0]⟩, .sl 4 (.int .i64), .bl 0 (.pair KT13 KT13), .bl 1 (.pair KT13 KT13)]
def ys54_0 : Ways := [((.exit 0), [.pt 1 ⟨0, [0]⟩, .pt 2 ⟨1, [0]⟩, .bl 0 (.pair KT13 KT13), .bl 1 (.pair KT13 KT13)]), (.ret, [.pt 2 ⟨1, [0]⟩, .sl 3 .bool, .bl 1 (.pair KT13 KT13)])]
noncomputable def R54_0 (v59 : ((Int × (Int × Unit)) × Unit) → Bool) (k59 : ((Int × (Int × Unit)) × Unit) → Bool) (v60 : ((Int × (Int × Unit)) × (Int × (Int × Unit)) × Unit) → KD21) (k60 : ((Int × (Int × Unit)) × (Int × (Int × Unit)) × Unit) → Bool) (v61 : (Int × Int × Unit) → (Int × (Int × Unit))) (k61 : (Int × Int × Unit) → Bool) (lv0 : (Unit × Unit × Int × KD0 × KD0 × Unit) → ((Unit × Unit × KD0 × KD0 × Unit) ⊕ (Unit × Bool × KD0 × Unit))) (lk0 : (Unit × Unit × Int × KD0 × KD0 × Unit) → Bool) (x0 : Unit) (x1 : Unit) (x2 : Int) (x3 : KD0) (x4 : KD0) : Option ((Unit × Unit × Int × KD0 × KD0 × Unit) ⊕ ((Unit × Unit × KD0 × KD0 × Unit) ⊕ (Unit × Bool × KD0 × Unit))) :=
  (bif (decide (x2 < 3)) then
    (bif (decide ((if x3.1.1 > x3.2.1 then x3.1.1 else x3.2.1) > (if (ior .u64 x3.1.1 x3.1.2.1) < x3.2.2.1 then (ior .u64 x3.1.1 x3.1.2.1) else x3.2.2.1))) then
      some (.inr (.inr ((), false, ((0, (0, ())), (0, (0, ()))), ())))
    else
      (bif (!(v60 (x3.1, (v61 ((if x3.1.1 > x3.2.1 then x3.1.1 else x3.2.1), (if (ior .u64 x3.1.1 x3.1.2.1) < x3.2.2.1 then (ior .u64 x3.1.1 x3.1.2.1) else x3.2.2.1), ())), ())).2.1) then
        (bif (tt 2 ((k60 (x3.1, (v61 ((if x3.1.1 > x3.2.1 then x3.1.1 else x3.2.1), (if (ior .u64 x3.1.1 x3.1.2.1) < x3.2.2.1 then (ior .u64 x3.1.1 x3.1.2.1) else x3.2.2.1), ())), ())) && (tt 1 (k61 ((if x3.1.1 > x3.2.1 then x3.1.1 else x3.2.1), (if (ior .u64 x3.1.1 x3.1.2.1) < x3.2.2.1 then (ior .u64 x3.1.1 x3.1.2.1) else x3.2.2.1), ()))))) then some (.inr (.inr ((), false, ((0, (0, ())), (0, (0, ()))), ()))) else none)
      else
        (bif (tt 2 ((k60 (x3.1, (v61 ((if x3.1.1 > x3.2.1 then x3.1.1 else x3.2.1), (if (ior .u64 x3.1.1 x3.1.2.1) < x3.2.2.1 then (ior .u64 x3.1.1 x3.1.2.1) else x3.2.2.1), ())), ())) && (tt 1 (k61 ((if x3.1.1 > x3.2.1 then x3.1.1 else x3.2.1), (if (ior .u64 x3.1.1 x3.1.2.1) < x3.2.2.1 then (ior .u64 x3.1.1 x3.1.2.1) else x3.2.2.1), ()))))) then some (.inl ((), (), (IntKind.wrap .i64 (x2 + 1)), ((v60 (x3.1, (v61 ((if x3.1.1 > x3.2.1 then x3.1.1 else x3.2.1), (if (ior .u64 x3.1.1 x3.1.2.1) < x3.2.2.1 then (ior .u64 x3.1.1 x3.1.2.1) else x3.2.2.1), ())), ())).1, ((if x3.1.1 > x3.2.1 then x3.1.1 else x3.2.1), ((if (ior .u64 x3.1.1 x3.1.2.1) < x3.2.2.1 then (ior .u64 x3.1.1 x3.1.2.1) else x3.2.2.1), x3.2.2.2))), x4, ())) else none)))
  else
    some (.inr (.inl ((), (), x3, x4, ()))))
theorem r54_0 (v59 : ((Int × (Int × Unit)) × Unit) → Bool) (k59 : ((Int × (Int × Unit)) × Unit) → Bool) (v60 : ((Int × (Int × Unit)) × (Int × (Int × Unit)) × Unit) → KD21) (k60 : ((Int × (Int × Unit)) × (Int × (Int × Unit)) × Unit) → Bool) (v61 : (Int × Int × Unit) → (Int × (Int × Unit))) (k61 : (Int × Int × Unit) → Bool) (lv0 : (Unit × Unit × Int × KD0 × KD0 × Unit) → ((Unit × Unit × KD0 × KD0 × Unit) ⊕ (Unit × Bool × KD0 × Unit))) (lk0 : (Unit × Unit × Int × KD0 × KD0 × Unit) → Bool) (x0 : Unit) (x1 : Unit) (x2 : Int) (x3 : KD0) (x4 : KD0) : codeT (CxL Try.Θ (kOf [(59, sm [KT13] .bool v59 k59), (60, sm [KT13, KT13] KT22 v60 k60), (61, sm [(.int .u64), (.int .u64)] KT13 v61 k61)]) (lOf [(0, orc 57 26 0 hd54_0 ys54_0 lv0 lk0)])) (loopB 0 (bodyF Try.f54)) (mkS 57 26 hd54_0 (x0, x1, x2, x3, x4, ())) (leafR 57 hd54_0 ys54_0) = R54_0 v59 k59 v60 k60 v61 k61 lv0 lk0 x0 x1 x2 x3 x4 := by kernel_rfl
noncomputable def S54 (v59 : ((Int × (Int × Unit)) × Unit) → Bool) (k59 : ((Int × (Int × Unit)) × Unit) → Bool) (v60 : ((Int × (Int × Unit)) × (Int × (Int × Unit)) × Unit) → KD21) (k60 : ((Int × (Int × Unit)) × (Int × (Int × Unit)) × Unit) → Bool) (v61 : (Int × Int × Unit) → (Int × (Int × Unit))) (k61 : (Int × Int × Unit) → Bool) (lv0 : (Unit × Unit × Int × KD0 × KD0 × Unit) → ((Unit × Unit × KD0 × KD0 × Unit) ⊕ (Unit × Bool × KD0 × Unit))) (lk0 : (Unit × Unit × Int × KD0 × KD0 × Unit) → Bool) (a0 : KD0) : Option (KD0 × (Bool × Unit)) :=
  (bif (!(v59 (a0.1, ()))) then
    (bif (tt 1 (k59 (a0.1, ()))) then some (((0, (0, ())), (0, (0, ()))), false, ()) else none)
  else
    (bif (isL (lv0 ((), (), 0, a0, ((0, (0, ())), (0, (0, ()))), ()))) then
      (bif ((lk0 ((), (), 0, a0, ((0, (0, ())), (0, (0, ()))), ())) && (tt 2 (k59 (a0.1, ())))) then some ((getL (((), (), ((0, (0, ())), (0, (0, ()))), ((0, (0, ())), (0, (0, ()))), ()) : (Unit × Unit × KD0 × KD0 × Unit)) (lv0 ((), (), 0, a0, ((0, (0, ())), (0, (0, ()))), ()))).2.2.1, true, ()) else none)
    else
      (bif ((lk0 ((), (), 0, a0, ((0, (0, ())), (0, (0, ()))), ())) && (tt 2 (k59 (a0.1, ())))) then some ((getR (((), false, ((0, (0, ())), (0, (0, ()))), ()) : (Unit × Bool × KD0 × Unit)) (lv0 ((), (), 0, a0, ((0, (0, ())), (0, (0, ()))), ()))).2.2.1, (getR (((), false, ((0, (0, ())), (0, (0, ()))), ()) : (Unit × Bool × KD0 × Unit)) (lv0 ((), (), 0, a0, ((0, (0, ())), (0, (0, ()))), ()))).2.1, ()) else none)))
theorem t54 (v59 : ((Int × (Int × Unit)) × Unit) → Bool) (k59 : ((Int × (Int × Unit)) × Unit) → Bool) (v60 : ((Int × (Int × Unit)) × (Int × (Int × Unit)) × Unit) → KD21) (k60 : ((Int × (Int × Unit)) × (Int × (Int × Unit)) × Unit) → Bool) (v61 : (Int × Int × Unit) → (Int × (Int × Unit))) (k61 : (Int × Int × Unit) → Bool) (lv0 : (Unit × Unit × Int × KD0 × KD0 × Unit) → ((Unit × Unit × KD0 × KD0 × Unit) ⊕ (Unit × Bool × KD0 × Unit))) (lk0 : (Unit × Unit × Int × KD0 × KD0 × Unit) → Bool) (a0 : KD0) : fnT (CxL Try.Θ (kOf [(59, sm [KT13] .bool v59 k59), (60, sm [KT13, KT13] KT22 v60 k60), (61, sm [(.int .u64), (.int .u64)] KT13 v61 k61)]) (lOf [(0, orc 57 26 0 hd54_0 ys54_0 lv0 lk0)])) Try.f54 KT23 [⟨(.pair KT13 KT13), a0⟩] = S54 v59 k59 v60 k60 v61 k61 lv0 lk0 a0 := by kernel_rfl
noncomputable def S45 (v54 : (KD0 × Unit) → (KD0 × (Bool × Unit))) (k54 : (KD0 × Unit) → Bool) (a0 : KD0) : Option Bool :=
  (bif (v54 (a0, ())).2.1 then
    (bif (tt 1 (k54 (a0, ()))) then some (((decide ((v54 (a0, ())).1.1.1 = a0.1.1)) && (tt 1 (decide ((v54 (a0, ())).1.1.2.1 = a0.1.2.1)))) && ((decide ((v54 (a0, ())).1.2.1 = a0.2.1)) && (tt 1 (decide ((v54 (a0, ())).1.2.2.1 = a0.2.2.1))))) else none)
  else
    (bif (tt 1 (k54 (a0, ()))) then some false else none))
theorem t45 (v54 : (KD0 × Unit) → (KD0 × (Bool × Unit))) (k54 : (KD0 × Unit) → Bool) (a0 : KD0) : fnT (CxL Try.Θ (kOf [(54, sm [(.pair KT13 KT13)] KT23 v54 k54)]) (lOf [])) Try.f45 .bool [⟨(.pair KT13 KT13), a0⟩] = S45 v54 k54 a0 := by kernel_rfl
noncomputable def S24 (v45 : (KD0 × Unit) → Bool) (k45 : (KD0 × Unit) → Bool) (a0 : (Int × (KD0 × KD1))) : Option Bool :=
  (bif ((decide (a0.1 = 0)) && ((((decide (a0.2.1.1.1 = 0)) && (tt 1 (decide (a0.2.1.1.2.1 = 0)))) && ((decide (a0.2.1.2.1 = 0)) && (tt 1 (decide (a0.2.1.2.2.1 = 0))))) && ((decide (a0.2.2.1 = 0)) && ((decide (a0.2.2.2.1 = 0)) && (tt 1 (decide (a0.2.2.2.2.1 = 0))))))) then
    some true
  else
    (bif (decide (a0.1 ≥ 1)) then
      (bif (decide (a0.1 ≤ 10)) then
        (bif (v45 (a0.2.1, ())) then
          (bif (decide (a0.2.2.1 ≥ 0)) then
            (bif (decide (a0.2.2.1 ≤ 1048576)) then
              (bif (decide (a0.2.2.2.1 ≥ 0)) then
                (bif (decide (a0.2.2.2.1 ≤ 1099511627776)) then
                  (bif (decide (a0.2.2.2.2.1 ≥ 0)) then
                    (bif (tt 1 (k45 (a0.2.1, ()))) then some (decide (a0.2.2.2.2.1 ≤ 4096)) else none)
                  else
                    (bif (tt 1 (k45 (a0.2.1, ()))) then some false else none))
                else
                  (bif (tt 1 (k45 (a0.2.1, ()))) then some false else none))
              else
                (bif (tt 1 (k45 (a0.2.1, ()))) then some false else none))
            else
              (bif (tt 1 (k45 (a0.2.1, ()))) then some false else none))
          else
            (bif (tt 1 (k45 (a0.2.1, ()))) then some false else none))
        else
          (bif (tt 1 (k45 (a0.2.1, ()))) then some false else none))
      else
        some false)
    else
      some false))
theorem t24 (v45 : (KD0 × Unit) → Bool) (k45 : (KD0 × Unit) → Bool) (a0 : (Int × (KD0 × KD1))) : fnT (CxL Try.Θ (kOf [(45, sm [(.pair KT13 KT13)] .bool v45 k45)]) (lOf [])) Try.f24 .bool [⟨KT18, a0⟩] = S24 v45 k45 a0 := by kernel_rfl
def hd7_0 : List It := [.pt 1 ⟨0, [0]⟩, .sl 3 (.int .i64), .bl 0 KT27]
def ys7_0 : Ways := [((.exit 0), [.pt 1 ⟨0, [0]⟩, .bl 0 KT27]), (.ret, [.sl 2 .bool])]
def hd7_2 : List It := [.pt 1 ⟨0, [0]⟩, .sl 4 (.int .i64), .bl 0 KT27]
def ys7_2 : Ways := [((.exit 2), [.pt 1 ⟨0, [0]⟩, .bl 0 KT27]), (.ret, [.sl 2 .bool])]
def hd7_6 : List It := [.pt 1 ⟨0, [0]⟩, .sl 6 (.int .i64), .sl 7 (.int .i64), .bl 0 KT27]
def ys7_6 : Ways := [((.exit 6), [.pt 1 ⟨0, [0]⟩, .sl 6 (.int .i64), .bl 0 KT27]), (.ret, [.sl 2 .bool])]
def hd7_4 : List It := [.pt 1 ⟨0, [0]⟩, .sl 6 (.int .i64), .bl 0 KT27]
def ys7_4 : Ways := [((.exit 4), [.pt 1 ⟨0, [0]⟩, .bl 0 KT27]), (.ret, [.sl 2 .bool])]
noncomputable def R7_0 (v24 : ((Int × (KD0 × KD1)) × Unit) → Bool) (k24 : ((Int × (KD0 × KD1)) × Unit) → Bool) (lv0 : (Unit × Int × KD6 × Unit) → ((Unit × KD6 × Unit) ⊕ (Bool × Unit))) (lk0 : (Unit × Int × KD6 × Unit) → Bool) (lv2 : (Unit × Int × KD6 × Unit) → ((Unit × KD6 × Unit) ⊕ (Bool × Unit))) (lk2 : (Unit × Int × KD6 × Unit) → Bool) (lv6 : (Unit × Int × Int × KD6 × Unit) → ((Unit × Int × KD6 × Unit) ⊕ (Bool × Unit))) (lk6 : (Unit × Int × Int × KD6 × Unit) → Bool) (lv4 : (Unit × Int × KD6 × Unit) → ((Unit × KD6 × Unit) ⊕ (Bool × Unit))) (lk4 : (Unit × Int × KD6 × Unit) → Bool) (x0 : Unit) (x1 : Int) (x2 : KD6) : Option ((Unit × Int × KD6 × Unit) ⊕ ((Unit × KD6 × Unit) ⊕ (Bool × Unit))) :=
  (bif (decide (x1 < 11)) then
    (bif (!(v24 ((x2.1.getD (Int.toNat x1) (0, (((0, (0, ())), (0, (0, ()))), (0, (0, (0, ())))))), ()))) then
      (bif (tt 1 ((k24 ((x2.1.getD (Int.toNat x1) (0, (((0, (0, ())), (0, (0, ()))), (0, (0, (0, ())))))), ())) && ((tt 1 (decide (((Int.toNat x1) : Nat) < 11))) && (tt 1 ((decide (0 ≤ x1)) && (decide (x1 < 11))))))) then some (.inr (.inr (false, ()))) else none)
    else
      (bif (tt 1 ((k24 ((x2.1.getD (Int.toNat x1) (0, (((0, (0, ())), (0, (0, ()))), (0, (0, (0, ())))))), ())) && ((tt 1 (decide (((Int.toNat x1) : Nat) < 11))) && (tt 1 ((decide (0 ≤ x1)) && (decide (x1 < 11))))))) then some (.inl ((), (IntKind.wrap .i64 (x1 + 1)), x2, ())) else none))
  else
    some (.inr (.inl ((), x2, ()))))
theorem r7_0 (v24 : ((Int × (KD0 × KD1)) × Unit) → Bool) (k24 : ((Int × (KD0 × KD1)) × Unit) → Bool) (lv0 : (Unit × Int × KD6 × Unit) → ((Unit × KD6 × Unit) ⊕ (Bool × Unit))) (lk0 : (Unit × Int × KD6 × Unit) → Bool) (lv2 : (Unit × Int × KD6 × Unit) → ((Unit × KD6 × Unit) ⊕ (Bool × Unit))) (lk2 : (Unit × Int × KD6 × Unit) → Bool) (lv6 : (Unit × Int × Int × KD6 × Unit) → ((Unit × Int × KD6 × Unit) ⊕ (Bool × Unit))) (lk6 : (Unit × Int × Int × KD6 × Unit) → Bool) (lv4 : (Unit × Int × KD6 × Unit) → ((Unit × KD6 × Unit) ⊕ (Bool × Unit))) (lk4 : (Unit × Int × KD6 × Unit) → Bool) (x0 : Unit) (x1 : Int) (x2 : KD6) : codeT (CxL Try.Θl (kOf [(24, sm [KT18] .bool v24 k24)]) (lOf [(0, orc 142 25 0 hd7_0 ys7_0 lv0 lk0), (2, orc 142 49 2 hd7_2 ys7_2 lv2 lk2), (6, orc 142 97 6 hd7_6 ys7_6 lv6 lk6), (4, orc 142 73 4 hd7_4 ys7_4 lv4 lk4)])) (loopB 0 (bodyF Try.f7)) (mkS 142 25 hd7_0 (x0, x1, x2, ())) (leafR 142 hd7_0 ys7_0) = R7_0 v24 k24 lv0 lk0 lv2 lk2 lv6 lk6 lv4 lk4 x0 x1 x2 := by kernel_rfl
noncomputable def R7_2 (v24 : ((Int × (KD0 × KD1)) × Unit) → Bool) (k24 : ((Int × (KD0 × KD1)) × Unit) → Bool) (lv0 : (Unit × Int × KD6 × Unit) → ((Unit × KD6 × Unit) ⊕ (Bool × Unit))) (lk0 : (Unit × Int × KD6 × Unit) → Bool) (lv2 : (Unit × Int × KD6 × Unit) → ((Unit × KD6 × Unit) ⊕ (Bool × Unit))) (lk2 : (Unit × Int × KD6 × Unit) → Bool) (lv6 : (Unit × Int × Int × KD6 × Unit) → ((Unit × Int × KD6 × Unit) ⊕ (Bool × Unit))) (lk6 : (Unit × Int × Int × KD6 × Unit) → Bool) (lv4 : (Unit × Int × KD6 × Unit) → ((Unit × KD6 × Unit) ⊕ (Bool × Unit))) (lk4 : (Unit × Int × KD6 × Unit) → Bool) (x0 : Unit) (x1 : Int) (x2 : KD6) : Option ((Unit × Int × KD6 × Unit) ⊕ ((Unit × KD6 × Unit) ⊕ (Bool × Unit))) :=
  (bif (decide (x1 < 64)) then
    (bif (decide ((x2.2.1.getD (Int.toNat x1) (0, (0, ((0, (((0, (0, ())), (0, (0, ()))), (0, (0, (0, ()))))), ())))).1 < 0)) then
      (bif (tt 1 ((tt 1 (decide (((Int.toNat x1) : Nat) < 64))) && (tt 1 ((decide (0 ≤ x1)) && (decide (x1 < 64)))))) then some (.inr (.inr (false, ()))) else none)
    else
      (bif (decide ((x2.2.1.getD (Int.toNat x1) (0, (0, ((0, (((0, (0, ())), (0, (0, ()))), (0, (0, (0, ()))))), ())))).1 > 2)) then
        (bif (tt 1 ((tt 1 (decide (((Int.toNat x1) : Nat) < 64))) && (tt 1 ((decide (0 ≤ x1)) && (decide (x1 < 64)))))) then some (.inr (.inr (false, ()))) else none)
      else
        (bif (decide ((x2.2.1.getD (Int.toNat x1) (0, (0, ((0, (((0, (0, ())), (0, (0, ()))), (0, (0, (0, ()))))), ())))).2.1 < 0)) then
          (bif (tt 1 ((tt 1 (decide (((Int.toNat x1) : Nat) < 64))) && (tt 1 ((decide (0 ≤ x1)) && (decide (x1 < 64)))))) then some (.inr (.inr (false, ()))) else none)
        else
          (bif (decide ((x2.2.1.getD (Int.toNat x1) (0, (0, ((0, (((0, (0, ())), (0, (0, ()))), (0, (0, (0, ()))))), ())))).2.1 > 255)) then
            (bif (tt 1 ((tt 1 (decide (((Int.toNat x1) : Nat) < 64))) && (tt 1 ((decide (0 ≤ x1)) && (decide (x1 < 64)))))) then some (.inr (.inr (false, ()))) else none)
          else
            (bif (!(v24 ((x2.2.1.getD (Int.toNat x1) (0, (0, ((0, (((0, (0, ())), (0, (0, ()))), (0, (0, (0, ()))))), ())))).2.2.1, ()))) then
              (bif (tt 1 ((k24 ((x2.2.1.getD (Int.toNat x1) (0, (0, ((0, (((0, (0, ())), (0, (0, ()))), (0, (0, (0, ()))))), ())))).2.2.1, ())) && ((tt 1 (decide (((Int.toNat x1) : Nat) < 64))) && (tt 1 ((decide (0 ≤ x1)) && (decide (x1 < 64))))))) then some (.inr (.inr (false, ()))) else none)
            else
              (bif (decide ((x2.2.1.getD (Int.toNat x1) (0, (0, ((0, (((0, (0, ())), (0, (0, ()))), (0, (0, (0, ()))))), ())))).1 = 2)) then
                (bif (decide ((x2.2.1.getD (Int.toNat x1) (0, (0, ((0, (((0, (0, ())), (0, (0, ()))), (0, (0, (0, ()))))), ())))).2.2.1.1 = 0)) then
                  (bif (tt 1 ((k24 ((x2.2.1.getD (Int.toNat x1) (0, (0, ((0, (((0, (0, ())), (0, (0, ()))), (0, (0, (0, ()))))), ())))).2.2.1, ())) && ((tt 1 (decide (((Int.toNat x1) : Nat) < 64))) && (tt 1 ((decide (0 ≤ x1)) && (decide (x1 < 64))))))) then some (.inr (.inr (false, ()))) else none)
                else
                  (bif (!(decide ((x2.2.1.getD (Int.toNat x1) (0, (0, ((0, (((0, (0, ())), (0, (0, ()))), (0, (0, (0, ()))))), ())))).2.1 = 0))) then
                    (bif (tt 1 ((k24 ((x2.2.1.getD (Int.toNat x1) (0, (0, ((0, (((0, (0, ())), (0, (0, ()))), (0, (0, (0, ()))))), ())))).2.2.1, ())) && ((tt 1 (decide (((Int.toNat x1) : Nat) < 64))) && (tt 1 ((decide (0 ≤ x1)) && (decide (x1 < 64))))))) then some (.inr (.inr (false, ()))) else none)
                  else
                    (bif (!(decide ((x2.2.1.getD (Int.toNat x1) (0, (0, ((0, (((0, (0, ())), (0, (0, ()))), (0, (0, (0, ()))))), ())))).1 = 2))) then
                      (bif (!((decide ((x2.2.1.getD (Int.toNat x1) (0, (0, ((0, (((0, (0, ())), (0, (0, ()))), (0, (0, (0, ()))))), ())))).2.2.1.1 = 0)) && ((((decide ((x2.2.1.getD (Int.toNat x1) (0, (0, ((0, (((0, (0, ())), (0, (0, ()))), (0, (0, (0, ()))))), ())))).2.2.1.2.1.1.1 = 0)) && (tt 1 (decide ((x2.2.1.getD (Int.toNat x1) (0, (0, ((0, (((0, (0, ())), (0, (0, ()))), (0, (0, (0, ()))))), ())))).2.2.1.2.1.1.2.1 = 0)))) && ((decide ((x2.2.1.getD (Int.toNat x1) (0, (0, ((0, (((0, (0, ())), (0, (0, ()))), (0, (0, (0, ()))))), ())))).2.2.1.2.1.2.1 = 0)) && (tt 1 (decide ((x2.2.1.getD (Int.toNat x1) (0, (0, ((0, (((0, (0, ())), (0, (0, ()))), (0, (0, (0, ()))))), ())))).2.2.1.2.1.2.2.1 = 0))))) && ((decide ((x2.2.1.getD (Int.toNat x1) (0, (0, ((0, (((0, (0, ())), (0, (0, ()))), (0, (0, (0, ()))))), ())))).2.2.1.2.2.1 = 0)) && ((decide ((x2.2.1.getD (Int.toNat x1) (0, (0, ((0, (((0, (0, ())), (0, (0, ()))), (0, (0, (0, ()))))), ())))).2.2.1.2.2.2.1 = 0)) && (tt 1 (decide ((x2.2.1.getD (Int.toNat x1) (0, (0, ((0, (((0, (0, ())), (0, (0, ()))), (0, (0, (0, ()))))), ())))).2.2.1.2.2.2.2.1 = 0)))))))) then
                        (bif (tt 1 ((k24 ((x2.2.1.getD (Int.toNat x1) (0, (0, ((0, (((0, (0, ())), (0, (0, ()))), (0, (0, (0, ()))))), ())))).2.2.1, ())) && ((tt 1 (decide (((Int.toNat x1) : Nat) < 64))) && (tt 1 ((decide (0 ≤ x1)) && (decide (x1 < 64))))))) then some (.inr (.inr (false, ()))) else none)
                      else
                        (bif (decide ((x2.2.1.getD (Int.toNat x1) (0, (0, ((0, (((0, (0, ())), (0, (0, ()))), (0, (0, (0, ()))))), ())))).1 = 0)) then
                          (bif (!(decide ((x2.2.1.getD (Int.toNat x1) (0, (0, ((0, (((0, (0, ())), (0, (0, ()))), (0, (0, (0, ()))))), ())))).2.1 = 0))) then
                            (bif (tt 1 ((k24 ((x2.2.1.getD (Int.toNat x1) (0, (0, ((0, (((0, (0, ())), (0, (0, ()))), (0, (0, (0, ()))))), ())))).2.2.1, ())) && ((tt 1 (decide (((Int.toNat x1) : Nat) < 64))) && (tt 1 ((decide (0 ≤ x1)) && (decide (x1 < 64))))))) then some (.inr (.inr (false, ()))) else none)
                          else
                            (bif (tt 1 ((k24 ((x2.2.1.getD (Int.toNat x1) (0, (0, ((0, (((0, (0, ())), (0, (0, ()))), (0, (0, (0, ()))))), ())))).2.2.1, ())) && ((tt 1 (decide (((Int.toNat x1) : Nat) < 64))) && (tt 1 ((decide (0 ≤ x1)) && (decide (x1 < 64))))))) then some (.inl ((), (IntKind.wrap .i64 (x1 + 1)), x2, ())) else none))
                        else
                          (bif (tt 1 ((k24 ((x2.2.1.getD (Int.toNat x1) (0, (0, ((0, (((0, (0, ())), (0, (0, ()))), (0, (0, (0, ()))))), ())))).2.2.1, ())) && ((tt 1 (decide (((Int.toNat x1) : Nat) < 64))) && (tt 1 ((decide (0 ≤ x1)) && (decide (x1 < 64))))))) then some (.inl ((), (IntKind.wrap .i64 (x1 + 1)), x2, ())) else none)))
                    else
                      (bif (decide ((x2.2.1.getD (Int.toNat x1) (0, (0, ((0, (((0, (0, ())), (0, (0, ()))), (0, (0, (0, ()))))), ())))).1 = 0)) then
                        (bif (!(decide ((x2.2.1.getD (Int.toNat x1) (0, (0, ((0, (((0, (0, ())), (0, (0, ()))), (0, (0, (0, ()))))), ())))).2.1 = 0))) then
                          (bif (tt 1 ((k24 ((x2.2.1.getD (Int.toNat x1) (0, (0, ((0, (((0, (0, ())), (0, (0, ()))), (0, (0, (0, ()))))), ())))).2.2.1, ())) && ((tt 1 (decide (((Int.toNat x1) : Nat) < 64))) && (tt 1 ((decide (0 ≤ x1)) && (decide (x1 < 64))))))) then some (.inr (.inr (false, ()))) else none)
                        else
                          (bif (tt 1 ((k24 ((x2.2.1.getD (Int.toNat x1) (0, (0, ((0, (((0, (0, ())), (0, (0, ()))), (0, (0, (0, ()))))), ())))).2.2.1, ())) && ((tt 1 (decide (((Int.toNat x1) : Nat) < 64))) && (tt 1 ((decide (0 ≤ x1)) && (decide (x1 < 64))))))) then some (.inl ((), (IntKind.wrap .i64 (x1 + 1)), x2, ())) else none))
                      else
                        (bif (tt 1 ((k24 ((x2.2.1.getD (Int.toNat x1) (0, (0, ((0, (((0, (0, ())), (0, (0, ()))), (0, (0, (0, ()))))), ())))).2.2.1, ())) && ((tt 1 (decide (((Int.toNat x1) : Nat) < 64))) && (tt 1 ((decide (0 ≤ x1)) && (decide (x1 < 64))))))) then some (.inl ((), (IntKind.wrap .i64 (x1 + 1)), x2, ())) else none)))))
              else
                (bif (!(decide ((x2.2.1.getD (Int.toNat x1) (0, (0, ((0, (((0, (0, ())), (0, (0, ()))), (0, (0, (0, ()))))), ())))).1 = 2))) then
                  (bif (!((decide ((x2.2.1.getD (Int.toNat x1) (0, (0, ((0, (((0, (0, ())), (0, (0, ()))), (0, (0, (0, ()))))), ())))).2.2.1.1 = 0)) && ((((decide ((x2.2.1.getD (Int.toNat x1) (0, (0, ((0, (((0, (0, ())), (0, (0, ()))), (0, (0, (0, ()))))), ())))).2.2.1.2.1.1.1 = 0)) && (tt 1 (decide ((x2.2.1.getD (Int.toNat x1) (0, (0, ((0, (((0, (0, ())), (0, (0, ()))), (0, (0, (0, ()))))), ())))).2.2.1.2.1.1.2.1 = 0)))) && ((decide ((x2.2.1.getD (Int.toNat x1) (0, (0, ((0, (((0, (0, ())), (0, (0, ()))), (0, (0, (0, ()))))), ())))).2.2.1.2.1.2.1 = 0)) && (tt 1 (decide ((x2.2.1.getD (Int.toNat x1) (0, (0, ((0, (((0, (0, ())), (0, (0, ()))), (0, (0, (0, ()))))), ())))).2.2.1.2.1.2.2.1 = 0))))) && ((decide ((x2.2.1.getD (Int.toNat x1) (0, (0, ((0, (((0, (0, ())), (0, (0, ()))), (0, (0, (0, ()))))), ())))).2.2.1.2.2.1 = 0)) && ((decide ((x2.2.1.getD (Int.toNat x1) (0, (0, ((0, (((0, (0, ())), (0, (0, ()))), (0, (0, (0, ()))))), ())))).2.2.1.2.2.2.1 = 0)) && (tt 1 (decide ((x2.2.1.getD (Int.toNat x1) (0, (0, ((0, (((0, (0, ())), (0, (0, ()))), (0, (0, (0, ()))))), ())))).2.2.1.2.2.2.2.1 = 0)))))))) then
                    (bif (tt 1 ((k24 ((x2.2.1.getD (Int.toNat x1) (0, (0, ((0, (((0, (0, ())), (0, (0, ()))), (0, (0, (0, ()))))), ())))).2.2.1, ())) && ((tt 1 (decide (((Int.toNat x1) : Nat) < 64))) && (tt 1 ((decide (0 ≤ x1)) && (decide (x1 < 64))))))) then some (.inr (.inr (false, ()))) else none)
                  else
                    (bif (decide ((x2.2.1.getD (Int.toNat x1) (0, (0, ((0, (((0, (0, ())), (0, (0, ()))), (0, (0, (0, ()))))), ())))).1 = 0)) then
                      (bif (!(decide ((x2.2.1.getD (Int.toNat x1) (0, (0, ((0, (((0, (0, ())), (0, (0, ()))), (0, (0, (0, ()))))), ())))).2.1 = 0))) then
                        (bif (tt 1 ((k24 ((x2.2.1.getD (Int.toNat x1) (0, (0, ((0, (((0, (0, ())), (0, (0, ()))), (0, (0, (0, ()))))), ())))).2.2.1, ())) && ((tt 1 (decide (((Int.toNat x1) : Nat) < 64))) && (tt 1 ((decide (0 ≤ x1)) && (decide (x1 < 64))))))) then some (.inr (.inr (false, ()))) else none)
                      else
                        (bif (tt 1 ((k24 ((x2.2.1.getD (Int.toNat x1) (0, (0, ((0, (((0, (0, ())), (0, (0, ()))), (0, (0, (0, ()))))), ())))).2.2.1, ())) && ((tt 1 (decide (((Int.toNat x1) : Nat) < 64))) && (tt 1 ((decide (0 ≤ x1)) && (decide (x1 < 64))))))) then some (.inl ((), (IntKind.wrap .i64 (x1 + 1)), x2, ())) else none))
                    else
                      (bif (tt 1 ((k24 ((x2.2.1.getD (Int.toNat x1) (0, (0, ((0, (((0, (0, ())), (0, (0, ()))), (0, (0, (0, ()))))), ())))).2.2.1, ())) && ((tt 1 (decide (((Int.toNat x1) : Nat) < 64))) && (tt 1 ((decide (0 ≤ x1)) && (decide (x1 < 64))))))) then some (.inl ((), (IntKind.wrap .i64 (x1 + 1)), x2, ())) else none)))
                else
                  (bif (decide ((x2.2.1.getD (Int.toNat x1) (0, (0, ((0, (((0, (0, ())), (0, (0, ()))), (0, (0, (0, ()))))), ())))).1 = 0)) then
                    (bif (!(decide ((x2.2.1.getD (Int.toNat x1) (0, (0, ((0, (((0, (0, ())), (0, (0, ()))), (0, (0, (0, ()))))), ())))).2.1 = 0))) then
                      (bif (tt 1 ((k24 ((x2.2.1.getD (Int.toNat x1) (0, (0, ((0, (((0, (0, ())), (0, (0, ()))), (0, (0, (0, ()))))), ())))).2.2.1, ())) && ((tt 1 (decide (((Int.toNat x1) : Nat) < 64))) && (tt 1 ((decide (0 ≤ x1)) && (decide (x1 < 64))))))) then some (.inr (.inr (false, ()))) else none)
                    else
                      (bif (tt 1 ((k24 ((x2.2.1.getD (Int.toNat x1) (0, (0, ((0, (((0, (0, ())), (0, (0, ()))), (0, (0, (0, ()))))), ())))).2.2.1, ())) && ((tt 1 (decide (((Int.toNat x1) : Nat) < 64))) && (tt 1 ((decide (0 ≤ x1)) && (decide (x1 < 64))))))) then some (.inl ((), (IntKind.wrap .i64 (x1 + 1)), x2, ())) else none))
                  else
                    (bif (tt 1 ((k24 ((x2.2.1.getD (Int.toNat x1) (0, (0, ((0, (((0, (0, ())), (0, (0, ()))), (0, (0, (0, ()))))), ())))).2.2.1, ())) && ((tt 1 (decide (((Int.toNat x1) : Nat) < 64))) && (tt 1 ((decide (0 ≤ x1)) && (decide (x1 < 64))))))) then some (.inl ((), (IntKind.wrap .i64 (x1 + 1)), x2, ())) else none)))))))))
  else
    some (.inr (.inl ((), x2, ()))))
theorem r7_2 (v24 : ((Int × (KD0 × KD1)) × Unit) → Bool) (k24 : ((Int × (KD0 × KD1)) × Unit) → Bool) (lv0 : (Unit × Int × KD6 × Unit) → ((Unit × KD6 × Unit) ⊕ (Bool × Unit))) (lk0 : (Unit × Int × KD6 × Unit) → Bool) (lv2 : (Unit × Int × KD6 × Unit) → ((Unit × KD6 × Unit) ⊕ (Bool × Unit))) (lk2 : (Unit × Int × KD6 × Unit) → Bool) (lv6 : (Unit × Int × Int × KD6 × Unit) → ((Unit × Int × KD6 × Unit) ⊕ (Bool × Unit))) (lk6 : (Unit × Int × Int × KD6 × Unit) → Bool) (lv4 : (Unit × Int × KD6 × Unit) → ((Unit × KD6 × Unit) ⊕ (Bool × Unit))) (lk4 : (Unit × Int × KD6 × Unit) → Bool) (x0 : Unit) (x1 : Int) (x2 : KD6) : codeT (CxL Try.Θl (kOf [(24, sm [KT18] .bool v24 k24)]) (lOf [(0, orc 142 25 0 hd7_0 ys7_0 lv0 lk0), (2, orc 142 49 2 hd7_2 ys7_2 lv2 lk2), (6, orc 142 97 6 hd7_6 ys7_6 lv6 lk6), (4, orc 142 73 4 hd7_4 ys7_4 lv4 lk4)])) (loopB 2 (bodyF Try.f7)) (mkS 142 49 hd7_2 (x0, x1, x2, ())) (leafR 142 hd7_2 ys7_2) = R7_2 v24 k24 lv0 lk0 lv2 lk2 lv6 lk6 lv4 lk4 x0 x1 x2 := by kernel_rfl
noncomputable def R7_6 (v24 : ((Int × (KD0 × KD1)) × Unit) → Bool) (k24 : ((Int × (KD0 × KD1)) × Unit) → Bool) (lv0 : (Unit × Int × KD6 × Unit) → ((Unit × KD6 × Unit) ⊕ (Bool × Unit))) (lk0 : (Unit × Int × KD6 × Unit) → Bool) (lv2 : (Unit × Int × KD6 × Unit) → ((Unit × KD6 × Unit) ⊕ (Bool × Unit))) (lk2 : (Unit × Int × KD6 × Unit) → Bool) (lv6 : (Unit × Int × Int × KD6 × Unit) → ((Unit × Int × KD6 × Unit) ⊕ (Bool × Unit))) (lk6 : (Unit × Int × Int × KD6 × Unit) → Bool) (lv4 : (Unit × Int × KD6 × Unit) → ((Unit × KD6 × Unit) ⊕ (Bool × Unit))) (lk4 : (Unit × Int × KD6 × Unit) → Bool) (x0 : Unit) (x1 : Int) (x2 : Int) (x3 : KD6) : Option ((Unit × Int × Int × KD6 × Unit) ⊕ ((Unit × Int × KD6 × Unit) ⊕ (Bool × Unit))) :=
  (bif (decide (x2 < x1)) then
    (bif (decide ((x3.2.2.2.1.getD (Int.toNat x2) 0) = (x3.2.2.2.1.getD (Int.toNat x1) 0))) then
      (bif (tt 2 (((decide (0 ≤ x1)) && (decide (x1 < ((x3.2.2.2.1.length : Nat) : Int)))) && (tt 1 ((decide (0 ≤ x2)) && (decide (x2 < ((x3.2.2.2.1.length : Nat) : Int))))))) then some (.inr (.inr (false, ()))) else none)
    else
      (bif (tt 2 (((decide (0 ≤ x1)) && (decide (x1 < ((x3.2.2.2.1.length : Nat) : Int)))) && (tt 1 ((decide (0 ≤ x2)) && (decide (x2 < ((x3.2.2.2.1.length : Nat) : Int))))))) then some (.inl ((), x1, (IntKind.wrap .i64 (x2 + 1)), x3, ())) else none))
  else
    some (.inr (.inl ((), x1, x3, ()))))
theorem r7_6 (v24 : ((Int × (KD0 × KD1)) × Unit) → Bool) (k24 : ((Int × (KD0 × KD1)) × Unit) → Bool) (lv0 : (Unit × Int × KD6 × Unit) → ((Unit × KD6 × Unit) ⊕ (Bool × Unit))) (lk0 : (Unit × Int × KD6 × Unit) → Bool) (lv2 : (Unit × Int × KD6 × Unit) → ((Unit × KD6 × Unit) ⊕ (Bool × Unit))) (lk2 : (Unit × Int × KD6 × Unit) → Bool) (lv6 : (Unit × Int × Int × KD6 × Unit) → ((Unit × Int × KD6 × Unit) ⊕ (Bool × Unit))) (lk6 : (Unit × Int × Int × KD6 × Unit) → Bool) (lv4 : (Unit × Int × KD6 × Unit) → ((Unit × KD6 × Unit) ⊕ (Bool × Unit))) (lk4 : (Unit × Int × KD6 × Unit) → Bool) (x0 : Unit) (x1 : Int) (x2 : Int) (x3 : KD6) : codeT (CxL Try.Θl (kOf [(24, sm [KT18] .bool v24 k24)]) (lOf [(0, orc 142 25 0 hd7_0 ys7_0 lv0 lk0), (2, orc 142 49 2 hd7_2 ys7_2 lv2 lk2), (6, orc 142 97 6 hd7_6 ys7_6 lv6 lk6), (4, orc 142 73 4 hd7_4 ys7_4 lv4 lk4)])) (loopB 6 (bodyF Try.f7)) (mkS 142 97 hd7_6 (x0, x1, x2, x3, ())) (leafR 142 hd7_6 ys7_6) = R7_6 v24 k24 lv0 lk0 lv2 lk2 lv6 lk6 lv4 lk4 x0 x1 x2 x3 := by kernel_rfl
noncomputable def R7_4 (v24 : ((Int × (KD0 × KD1)) × Unit) → Bool) (k24 : ((Int × (KD0 × KD1)) × Unit) → Bool) (lv0 : (Unit × Int × KD6 × Unit) → ((Unit × KD6 × Unit) ⊕ (Bool × Unit))) (lk0 : (Unit × Int × KD6 × Unit) → Bool) (lv2 : (Unit × Int × KD6 × Unit) → ((Unit × KD6 × Unit) ⊕ (Bool × Unit))) (lk2 : (Unit × Int × KD6 × Unit) → Bool) (lv6 : (Unit × Int × Int × KD6 × Unit) → ((Unit × Int × KD6 × Unit) ⊕ (Bool × Unit))) (lk6 : (Unit × Int × Int × KD6 × Unit) → Bool) (lv4 : (Unit × Int × KD6 × Unit) → ((Unit × KD6 × Unit) ⊕ (Bool × Unit))) (lk4 : (Unit × Int × KD6 × Unit) → Bool) (x0 : Unit) (x1 : Int) (x2 : KD6) : Option ((Unit × Int × KD6 × Unit) ⊕ ((Unit × KD6 × Unit) ⊕ (Bool × Unit))) :=
  (bif (decide (x1 < ((x2.2.2.2.1.length : Nat) : Int))) then
    (bif (decide ((x2.2.2.2.1.getD (Int.toNat x1) 0) < 1)) then
      (bif (tt 2 ((decide (0 ≤ x1)) && (decide (x1 < ((x2.2.2.2.1.length : Nat) : Int))))) then some (.inr (.inr (false, ()))) else none)
    else
      (bif (decide ((x2.2.2.2.1.getD (Int.toNat x1) 0) > 1099511627776)) then
        (bif (tt 1 (((decide (0 ≤ x1)) && (decide (x1 < ((x2.2.2.2.1.length : Nat) : Int)))) && (tt 1 ((decide (0 ≤ x1)) && (decide (x1 < ((x2.2.2.2.1.length : Nat) : Int))))))) then some (.inr (.inr (false, ()))) else none)
      else
        (bif (isL (lv6 ((), x1, 0, x2, ()))) then
          (bif (tt 1 ((lk6 ((), x1, 0, x2, ())) && (tt 1 (((decide (0 ≤ x1)) && (decide (x1 < ((x2.2.2.2.1.length : Nat) : Int)))) && (tt 1 ((decide (0 ≤ x1)) && (decide (x1 < ((x2.2.2.2.1.length : Nat) : Int))))))))) then some (.inl ((), (IntKind.wrap .i64 ((getL (((), 0, ([], ([], (0, ([], (0, ()))))), ()) : (Unit × Int × KD6 × Unit)) (lv6 ((), x1, 0, x2, ()))).2.1 + 1)), (getL (((), 0, ([], ([], (0, ([], (0, ()))))), ()) : (Unit × Int × KD6 × Unit)) (lv6 ((), x1, 0, x2, ()))).2.2.1, ())) else none)
        else
          (bif (tt 1 ((lk6 ((), x1, 0, x2, ())) && (tt 1 (((decide (0 ≤ x1)) && (decide (x1 < ((x2.2.2.2.1.length : Nat) : Int)))) && (tt 1 ((decide (0 ≤ x1)) && (decide (x1 < ((x2.2.2.2.1.length : Nat) : Int))))))))) then some (.inr (.inr ((getR ((false, ()) : (Bool × Unit)) (lv6 ((), x1, 0, x2, ()))).1, ()))) else none))))
  else
    some (.inr (.inl ((), x2, ()))))
theorem r7_4 (v24 : ((Int × (KD0 × KD1)) × Unit) → Bool) (k24 : ((Int × (KD0 × KD1)) × Unit) → Bool) (lv0 : (Unit × Int × KD6 × Unit) → ((Unit × KD6 × Unit) ⊕ (Bool × Unit))) (lk0 : (Unit × Int × KD6 × Unit) → Bool) (lv2 : (Unit × Int × KD6 × Unit) → ((Unit × KD6 × Unit) ⊕ (Bool × Unit))) (lk2 : (Unit × Int × KD6 × Unit) → Bool) (lv6 : (Unit × Int × Int × KD6 × Unit) → ((Unit × Int × KD6 × Unit) ⊕ (Bool × Unit))) (lk6 : (Unit × Int × Int × KD6 × Unit) → Bool) (lv4 : (Unit × Int × KD6 × Unit) → ((Unit × KD6 × Unit) ⊕ (Bool × Unit))) (lk4 : (Unit × Int × KD6 × Unit) → Bool) (x0 : Unit) (x1 : Int) (x2 : KD6) : codeT (CxL Try.Θl (kOf [(24, sm [KT18] .bool v24 k24)]) (lOf [(0, orc 142 25 0 hd7_0 ys7_0 lv0 lk0), (2, orc 142 49 2 hd7_2 ys7_2 lv2 lk2), (6, orc 142 97 6 hd7_6 ys7_6 lv6 lk6), (4, orc 142 73 4 hd7_4 ys7_4 lv4 lk4)])) (loopB 4 (bodyF Try.f7)) (mkS 142 73 hd7_4 (x0, x1, x2, ())) (leafR 142 hd7_4 ys7_4) = R7_4 v24 k24 lv0 lk0 lv2 lk2 lv6 lk6 lv4 lk4 x0 x1 x2 := by kernel_rfl
noncomputable def S7 (v24 : ((Int × (KD0 × KD1)) × Unit) → Bool) (k24 : ((Int × (KD0 × KD1)) × Unit) → Bool) (lv0 : (Unit × Int × KD6 × Unit) → ((Unit × KD6 × Unit) ⊕ (Bool × Unit))) (lk0 : (Unit × Int × KD6 × Unit) → Bool) (lv2 : (Unit × Int × KD6 × Unit) → ((Unit × KD6 × Unit) ⊕ (Bool × Unit))) (lk2 : (Unit × Int × KD6 × Unit) → Bool) (lv6 : (Unit × Int × Int × KD6 × Unit) → ((Unit × Int × KD6 × Unit) ⊕ (Bool × Unit))) (lk6 : (Unit × Int × Int × KD6 × Unit) → Bool) (lv4 : (Unit × Int × KD6 × Unit) → ((Unit × KD6 × Unit) ⊕ (Bool × Unit))) (lk4 : (Unit × Int × KD6 × Unit) → Bool) (a0 : KD6) : Option Bool :=
  (bif (isL (lv0 ((), 0, a0, ()))) then
    (bif (isL (lv2 ((), 0, (getL (((), ([], ([], (0, ([], (0, ()))))), ()) : (Unit × KD6 × Unit)) (lv0 ((), 0, a0, ()))).2.1, ()))) then
      (bif (isL (lv4 ((), 0, (getL (((), ([], ([], (0, ([], (0, ()))))), ()) : (Unit × KD6 × Unit)) (lv2 ((), 0, (getL (((), ([], ([], (0, ([], (0, ()))))), ()) : (Unit × KD6 × Unit)) (lv0 ((), 0, a0, ()))).2.1, ()))).2.1, ()))) then
        (bif (decide ((getL (((), ([], ([], (0, ([], (0, ()))))), ()) : (Unit × KD6 × Unit)) (lv4 ((), 0, (getL (((), ([], ([], (0, ([], (0, ()))))), ()) : (Unit × KD6 × Unit)) (lv2 ((), 0, (getL (((), ([], ([], (0, ([], (0, ()))))), ()) : (Unit × KD6 × Unit)) (lv0 ((), 0, a0, ()))).2.1, ()))).2.1, ()))).2.1.2.2.1 ≥ 0)) then
          (bif (decide ((getL (((), ([], ([], (0, ([], (0, ()))))), ()) : (Unit × KD6 × Unit)) (lv4 ((), 0, (getL (((), ([], ([], (0, ([], (0, ()))))), ()) : (Unit × KD6 × Unit)) (lv2 ((), 0, (getL (((), ([], ([], (0, ([], (0, ()))))), ()) : (Unit × KD6 × Unit)) (lv0 ((), 0, a0, ()))).2.1, ()))).2.1, ()))).2.1.2.2.1 ≤ 1048576)) then
            (bif (decide ((getL (((), ([], ([], (0, ([], (0, ()))))), ()) : (Unit × KD6 × Unit)) (lv4 ((), 0, (getL (((), ([], ([], (0, ([], (0, ()))))), ()) : (Unit × KD6 × Unit)) (lv2 ((), 0, (getL (((), ([], ([], (0, ([], (0, ()))))), ()) : (Unit × KD6 × Unit)) (lv0 ((), 0, a0, ()))).2.1, ()))).2.1, ()))).2.1.2.2.2.2.1 ≥ 0)) then
              (bif ((lk4 ((), 0, (getL (((), ([], ([], (0, ([], (0, ()))))), ()) : (Unit × KD6 × Unit)) (lv2 ((), 0, (getL (((), ([], ([], (0, ([], (0, ()))))), ()) : (Unit × KD6 × Unit)) (lv0 ((), 0, a0, ()))).2.1, ()))).2.1, ())) && (tt 1 ((lk2 ((), 0, (getL (((), ([], ([], (0, ([], (0, ()))))), ()) : (Unit × KD6 × Unit)) (lv0 ((), 0, a0, ()))).2.1, ())) && (tt 2 (lk0 ((), 0, a0, ())))))) then some (decide ((getL (((), ([], ([], (0, ([], (0, ()))))), ()) : (Unit × KD6 × Unit)) (lv4 ((), 0, (getL (((), ([], ([], (0, ([], (0, ()))))), ()) : (Unit × KD6 × Unit)) (lv2 ((), 0, (getL (((), ([], ([], (0, ([], (0, ()))))), ()) : (Unit × KD6 × Unit)) (lv0 ((), 0, a0, ()))).2.1, ()))).2.1, ()))).2.1.2.2.2.2.1 ≤ 1099511627776)) else none)
            else
              (bif ((lk4 ((), 0, (getL (((), ([], ([], (0, ([], (0, ()))))), ()) : (Unit × KD6 × Unit)) (lv2 ((), 0, (getL (((), ([], ([], (0, ([], (0, ()))))), ()) : (Unit × KD6 × Unit)) (lv0 ((), 0, a0, ()))).2.1, ()))).2.1, ())) && (tt 1 ((lk2 ((), 0, (getL (((), ([], ([], (0, ([], (0, ()))))), ()) : (Unit × KD6 × Unit)) (lv0 ((), 0, a0, ()))).2.1, ())) && (tt 2 (lk0 ((), 0, a0, ())))))) then some false else none))
          else
            (bif ((lk4 ((), 0, (getL (((), ([], ([], (0, ([], (0, ()))))), ()) : (Unit × KD6 × Unit)) (lv2 ((), 0, (getL (((), ([], ([], (0, ([], (0, ()))))), ()) : (Unit × KD6 × Unit)) (lv0 ((), 0, a0, ()))).2.1, ()))).2.1, ())) && (tt 1 ((lk2 ((), 0, (getL (((), ([], ([], (0, ([], (0, ()))))), ()) : (Unit × KD6 × Unit)) (lv0 ((), 0, a0, ()))).2.1, ())) && (tt 2 (lk0 ((), 0, a0, ())))))) then some false else none))
        else
          (bif ((lk4 ((), 0, (getL (((), ([], ([], (0, ([], (0, ()))))), ()) : (Unit × KD6 × Unit)) (lv2 ((), 0, (getL (((), ([], ([], (0, ([], (0, ()))))), ()) : (Unit × KD6 × Unit)) (lv0 ((), 0, a0, ()))).2.1, ()))).2.1, ())) && (tt 1 ((lk2 ((), 0, (getL (((), ([], ([], (0, ([], (0, ()))))), ()) : (Unit × KD6 × Unit)) (lv0 ((), 0, a0, ()))).2.1, ())) && (tt 2 (lk0 ((), 0, a0, ())))))) then some false else none))
      else
        (bif ((lk4 ((), 0, (getL (((), ([], ([], (0, ([], (0, ()))))), ()) : (Unit × KD6 × Unit)) (lv2 ((), 0, (getL (((), ([], ([], (0, ([], (0, ()))))), ()) : (Unit × KD6 × Unit)) (lv0 ((), 0, a0, ()))).2.1, ()))).2.1, ())) && (tt 1 ((lk2 ((), 0, (getL (((), ([], ([], (0, ([], (0, ()))))), ()) : (Unit × KD6 × Unit)) (lv0 ((), 0, a0, ()))).2.1, ())) && (tt 2 (lk0 ((), 0, a0, ())))))) then some (getR ((false, ()) : (Bool × Unit)) (lv4 ((), 0, (getL (((), ([], ([], (0, ([], (0, ()))))), ()) : (Unit × KD6 × Unit)) (lv2 ((), 0, (getL (((), ([], ([], (0, ([], (0, ()))))), ()) : (Unit × KD6 × Unit)) (lv0 ((), 0, a0, ()))).2.1, ()))).2.1, ()))).1 else none))
    else
      (bif ((lk2 ((), 0, (getL (((), ([], ([], (0, ([], (0, ()))))), ()) : (Unit × KD6 × Unit)) (lv0 ((), 0, a0, ()))).2.1, ())) && (tt 2 (lk0 ((), 0, a0, ())))) then some (getR ((false, ()) : (Bool × Unit)) (lv2 ((), 0, (getL (((), ([], ([], (0, ([], (0, ()))))), ()) : (Unit × KD6 × Unit)) (lv0 ((), 0, a0, ()))).2.1, ()))).1 else none))
  else
    (bif (tt 1 (lk0 ((), 0, a0, ()))) then some (getR ((false, ()) : (Bool × Unit)) (lv0 ((), 0, a0, ()))).1 else none))
theorem t7 (v24 : ((Int × (KD0 × KD1)) × Unit) → Bool) (k24 : ((Int × (KD0 × KD1)) × Unit) → Bool) (lv0 : (Unit × Int × KD6 × Unit) → ((Unit × KD6 × Unit) ⊕ (Bool × Unit))) (lk0 : (Unit × Int × KD6 × Unit) → Bool) (lv2 : (Unit × Int × KD6 × Unit) → ((Unit × KD6 × Unit) ⊕ (Bool × Unit))) (lk2 : (Unit × Int × KD6 × Unit) → Bool) (lv6 : (Unit × Int × Int × KD6 × Unit) → ((Unit × Int × KD6 × Unit) ⊕ (Bool × Unit))) (lk6 : (Unit × Int × Int × KD6 × Unit) → Bool) (lv4 : (Unit × Int × KD6 × Unit) → ((Unit × KD6 × Unit) ⊕ (Bool × Unit))) (lk4 : (Unit × Int × KD6 × Unit) → Bool) (a0 : KD6) : fnL (CxL Try.Θl (kOf [(24, sm [KT18] .bool v24 k24)]) (lOf [(0, orc 142 25 0 hd7_0 ys7_0 lv0 lk0), (2, orc 142 49 2 hd7_2 ys7_2 lv2 lk2), (6, orc 142 97 6 hd7_6 ys7_6 lv6 lk6), (4, orc 142 73 4 hd7_4 ys7_4 lv4 lk4)])) Try.f7 .bool [⟨KT27, a0⟩] = S7 v24 k24 lv0 lk0 lv2 lk2 lv6 lk6 lv4 lk4 a0 := by kernel_rfl
def hd12_0 : List It := [.pt 2 ⟨0, [0]⟩, .pt 3 ⟨1, [0]⟩, .sl 5 (.int .i64), .bl 0 KT27, .bl 1 KT27]
def ys12_0 : Ways := [((.exit 0), []), (.ret, [.sl 4 .bool])]
noncomputable def R12_0 (lv0 : (Unit × Unit × Int × KD6 × KD6 × Unit) → ((Unit) ⊕ (Bool × Unit))) (lk0 : (Unit × Unit × Int × KD6 × KD6 × Unit) → Bool) (x0 : Unit) (x1 : Unit) (x2 : Int) (x3 : KD6) (x4 : KD6) : Option ((Unit × Unit × Int × KD6 × KD6 × Unit) ⊕ ((Unit) ⊕ (Bool × Unit))) :=
  (bif (decide (x2 < ((x3.2.2.2.1.length : Nat) : Int))) then
    (bif (!(decide ((x3.2.2.2.1.getD (Int.toNat x2) 0) = (x4.2.2.2.1.getD (Int.toNat x2) 0)))) then
      (bif (tt 2 (((decide (0 ≤ x2)) && (decide (x2 < ((x4.2.2.2.1.length : Nat) : Int)))) && (tt 1 ((decide (0 ≤ x2)) && (decide (x2 < ((x3.2.2.2.1.length : Nat) : Int))))))) then some (.inr (.inr (false, ()))) else none)
    else
      (bif (tt 2 (((decide (0 ≤ x2)) && (decide (x2 < ((x4.2.2.2.1.length : Nat) : Int)))) && (tt 1 ((decide (0 ≤ x2)) && (decide (x2 < ((x3.2.2.2.1.length : Nat) : Int))))))) then some (.inl ((), (), (IntKind.wrap .i64 (x2 + 1)), x3, x4, ())) else none))
  else
    some (.inr (.inl (()))))
theorem r12_0 (lv0 : (Unit × Unit × Int × KD6 × KD6 × Unit) → ((Unit) ⊕ (Bool × Unit))) (lk0 : (Unit × Unit × Int × KD6 × KD6 × Unit) → Bool) (x0 : Unit) (x1 : Unit) (x2 : Int) (x3 : KD6) (x4 : KD6) : codeT (CxL Try.Θl (kOf []) (lOf [(0, orc 59 26 0 hd12_0 ys12_0 lv0 lk0)])) (loopB 0 (bodyF Try.f12)) (mkS 59 26 hd12_0 (x0, x1, x2, x3, x4, ())) (leafR 59 hd12_0 ys12_0) = R12_0 lv0 lk0 x0 x1 x2 x3 x4 := by kernel_rfl
noncomputable def S12 (lv0 : (Unit × Unit × Int × KD6 × KD6 × Unit) → ((Unit) ⊕ (Bool × Unit))) (lk0 : (Unit × Unit × Int × KD6 × KD6 × Unit) → Bool) (a0 : KD6) (a1 : KD6) : Option Bool :=
  (bif (!(decide (((a0.2.2.2.1.length : Nat) : Int) = ((a1.2.2.2.1.length : Nat) : Int)))) then
    some false
  else
    (bif (!(eqb (.arr 11 KT18) a0.1 a1.1)) then
      some false
    else
      (bif (!(eqb (.arr 64 KT20) a0.2.1 a1.2.1)) then
        some false
      else
        (bif (!(decide (a0.2.2.1 = a1.2.2.1))) then
          some false
        else
          (bif (!(decide (a0.2.2.2.2.1 = a1.2.2.2.2.1))) then
            some false
          else
            (bif (isL (lv0 ((), (), 0, a0, a1, ()))) then
              (bif (tt 1 (lk0 ((), (), 0, a0, a1, ()))) then some true else none)
            else
              (bif (tt 1 (lk0 ((), (), 0, a0, a1, ()))) then some (getR ((false, ()) : (Bool × Unit)) (lv0 ((), (), 0, a0, a1, ()))).1 else none)))))))
theorem t12 (lv0 : (Unit × Unit × Int × KD6 × KD6 × Unit) → ((Unit) ⊕ (Bool × Unit))) (lk0 : (Unit × Unit × Int × KD6 × KD6 × Unit) → Bool) (a0 : KD6) (a1 : KD6) : fnL (CxL Try.Θl (kOf []) (lOf [(0, orc 59 26 0 hd12_0 ys12_0 lv0 lk0)])) Try.f12 .bool [⟨KT27, a0⟩, ⟨KT27, a1⟩] = S12 lv0 lk0 a0 a1 := by kernel_rfl
noncomputable def S57  (a0 : Int) (a1 : Int) : Option (Int × (Int × Unit)) :=
  some ((iandn .u64 a0 a1), (a1, ()))
theorem t57  (a0 : Int) (a1 : Int) : fnT (CxL Try.Θ (kOf []) (lOf [])) Try.f57 KT13 [⟨(.int .u64), a0⟩, ⟨(.int .u64), a1⟩] = S57  a0 a1 := by kernel_rfl
noncomputable def S50 (v57 : (Int × Int × Unit) → (Int × (Int × Unit))) (k57 : (Int × Int × Unit) → Bool) (a0 : Int) : Option (Int × (Int × Unit)) :=
  (bif (tt 1 (k57 (a0, 0, ()))) then some (v57 (a0, 0, ())) else none)
theorem t50 (v57 : (Int × Int × Unit) → (Int × (Int × Unit))) (k57 : (Int × Int × Unit) → Bool) (a0 : Int) : fnT (CxL Try.Θ (kOf [(57, sm [(.int .u64), (.int .u64)] KT13 v57 k57)]) (lOf [])) Try.f50 KT13 [⟨(.int .u64), a0⟩] = S50 v57 k57 a0 := by kernel_rfl
noncomputable def S35 (v50 : (Int × Unit) → (Int × (Int × Unit))) (k50 : (Int × Unit) → Bool) (a0 : Int) : Option KD0 :=
  (bif (tt 1 (k50 (a0, ()))) then some ((v50 (a0, ())), (a0, (a0, ()))) else none)
theorem t35 (v50 : (Int × Unit) → (Int × (Int × Unit))) (k50 : (Int × Unit) → Bool) (a0 : Int) : fnT (CxL Try.Θ (kOf [(50, sm [(.int .u64)] KT13 v50 k50)]) (lOf [])) Try.f35 (.pair KT13 KT13) [⟨(.int .u64), a0⟩] = S35 v50 k50 a0 := by kernel_rfl
noncomputable def S26  (a0 : Int) : Option KD0 :=
  some ((a0, (0, ())), (a0, (a0, ())))
theorem t26  (a0 : Int) : fnT (CxL Try.Θ (kOf []) (lOf [])) Try.f26 (.pair KT13 KT13) [⟨(.int .u64), a0⟩] = S26  a0 := by kernel_rfl
end Go.Proofs
