import Derived.Test.YtaajacejgkcehaaT
import Derived.Test.YtaajacejgkcehaaGc
namespace Go.Proofs
open Go.GX
set_option linter.unusedVariables false
set_option maxRecDepth 100000
@[reducible] def KD0 : Type := ((Int × (Int × Unit)) × (Int × (Int × Unit)))
@[reducible] def KT1 : Ty := (.pair (.int .u64) .unit)
@[reducible] def KD2 : Type := ((Int × (Int × Unit)) × (Bool × Unit))
@[reducible] def KT3 : Ty := (.tup (.pair (.int .u64) KT1) (.tup .bool .tnil))
@[reducible] def KT4 : Ty := (.pair (.pair (.int .u64) KT1) (.pair (.int .u64) KT1))
@[reducible] def KT5 : Ty := (.tup KT4 (.tup .bool .tnil))
@[reducible] def KT6 : Ty := (.tup (.int .u64) (.tup .bool .tnil))
@[reducible] def KD7 : Type := (KD0 × (KD0 × (Bool × Unit)))
@[reducible] def KT8 : Ty := (.tup .bool (.tup .bool .tnil))
@[reducible] def KT9 : Ty := (.tup (.int .i64) .tnil)
noncomputable def S36  (a0 : (Int × (Int × Unit))) : Option Bool :=
  some (decide ((iand .u64 a0.1 a0.2.1) = 0))
theorem t36  (a0 : (Int × (Int × Unit))) : fnT (CxL Try.Θ (kOf []) (lOf [])) Try.f36 .bool [⟨(.pair (.int .u64) KT1), a0⟩] = S36  a0 := by kernel_rfl
def hd37_0 : List It := [.sl 0 (.int .u64), .pt 4 ⟨0, [0]⟩, .sl 5 (.int .u64), .sl 6 (.int .u64), .bl 0 (.pair (.int .u64) KT1)]
def ys37_0 : Ways := [((.exit 0), [.sl 0 (.int .u64), .pt 4 ⟨0, [0]⟩, .sl 6 (.int .u64), .bl 0 (.pair (.int .u64) KT1)])]
noncomputable def R37_0 (lv0 : (Int × Unit × Int × Int × (Int × (Int × Unit)) × Unit) → (Int × Unit × Int × (Int × (Int × Unit)) × Unit)) (lk0 : (Int × Unit × Int × Int × (Int × (Int × Unit)) × Unit) → Bool) (x0 : Int) (x1 : Unit) (x2 : Int) (x3 : Int) (x4 : (Int × (Int × Unit))) : Option ((Int × Unit × Int × Int × (Int × (Int × Unit)) × Unit) ⊕ (Int × Unit × Int × (Int × (Int × Unit)) × Unit)) :=
  (bif (!(decide (x2 = 0))) then some (.inl (x0, (), (ishr .u64 x2 1), (ior .u64 (ishl .u64 x3 1) 1), x4, ())) else some (.inr (x0, (), x3, x4, ())))
theorem r37_0 (lv0 : (Int × Unit × Int × Int × (Int × (Int × Unit)) × Unit) → (Int × Unit × Int × (Int × (Int × Unit)) × Unit)) (lk0 : (Int × Unit × Int × Int × (Int × (Int × Unit)) × Unit) → Bool) (x0 : Int) (x1 : Unit) (x2 : Int) (x3 : Int) (x4 : (Int × (Int × Unit))) : codeT (CxL Try.Θ (kOf []) (lOf [(0, orc 22 25 0 hd37_0 ys37_0 lv0 lk0)])) (loopB 0 (bodyF Try.f37)) (mkS 22 25 hd37_0 (x0, x1, x2, x3, x4, ())) (leafR 22 hd37_0 ys37_0) = R37_0 lv0 lk0 x0 x1 x2 x3 x4 := by kernel_rfl
noncomputable def S37 (lv0 : (Int × Unit × Int × Int × (Int × (Int × Unit)) × Unit) → (Int × Unit × Int × (Int × (Int × Unit)) × Unit)) (lk0 : (Int × Unit × Int × Int × (Int × (Int × Unit)) × Unit) → Bool) (a0 : Int) (a1 : Int) : Option (Int × (Int × Unit)) :=
  (bif (tt 1 (lk0 (a0, (), (ixor .u64 a0 a1), 0, (0, (0, ())), ()))) then some ((iandn .u64 (lv0 (a0, (), (ixor .u64 a0 a1), 0, (0, (0, ())), ())).1 (lv0 (a0, (), (ixor .u64 a0 a1), 0, (0, (0, ())), ())).2.2.1), ((lv0 (a0, (), (ixor .u64 a0 a1), 0, (0, (0, ())), ())).2.2.1, ())) else none)
theorem t37 (lv0 : (Int × Unit × Int × Int × (Int × (Int × Unit)) × Unit) → (Int × Unit × Int × (Int × (Int × Unit)) × Unit)) (lk0 : (Int × Unit × Int × Int × (Int × (Int × Unit)) × Unit) → Bool) (a0 : Int) (a1 : Int) : fnT (CxL Try.Θ (kOf []) (lOf [(0, orc 22 25 0 hd37_0 ys37_0 lv0 lk0)])) Try.f37 (.pair (.int .u64) KT1) [⟨(.int .u64), a0⟩, ⟨(.int .u64), a1⟩] = S37 lv0 lk0 a0 a1 := by kernel_rfl
noncomputable def S26  (a0 : (Int × (Int × Unit))) (a1 : (Int × (Int × Unit))) : Option KD2 :=
  (bif (!(decide ((iandn .u64 (iandn .u64 (ixor .u64 a0.1 a1.1) a0.2.1) a1.2.1) = 0))) then
    some ((0, (0, ())), false, ())
  else
    some (((iandn .u64 (ior .u64 a0.1 a1.1) (iand .u64 a0.2.1 a1.2.1)), ((iand .u64 a0.2.1 a1.2.1), ())), true, ()))
theorem t26  (a0 : (Int × (Int × Unit))) (a1 : (Int × (Int × Unit))) : fnT (CxL Try.Θ (kOf []) (lOf [])) Try.f26 KT3 [⟨(.pair (.int .u64) KT1), a0⟩, ⟨(.pair (.int .u64) KT1), a1⟩] = S26  a0 a1 := by kernel_rfl
def hd18_0 : List It := [.pt 1 ⟨0, [0]⟩, .pt 2 ⟨1, [0]⟩, .sl 4 (.int .i64), .bl 0 KT4, .bl 1 KT4]
def ys18_0 : Ways := [((.exit 0), [.pt 1 ⟨0, [0]⟩, .pt 2 ⟨1, [0]⟩, .bl 0 KT4, .bl 1 KT4]), (.ret, [.pt 2 ⟨1, [0]⟩, .sl 3 .bool, .bl 1 KT4])]
noncomputable def R18_0 (v26 : ((Int × (Int × Unit)) × (Int × (Int × Unit)) × Unit) → KD2) (k26 : ((Int × (Int × Unit)) × (Int × (Int × Unit)) × Unit) → Bool) (v36 : ((Int × (Int × Unit)) × Unit) → Bool) (k36 : ((Int × (Int × Unit)) × Unit) → Bool) (v37 : (Int × Int × Unit) → (Int × (Int × Unit))) (k37 : (Int × Int × Unit) → Bool) (lv0 : (Unit × Unit × Int × KD0 × KD0 × Unit) → ((Unit × Unit × KD0 × KD0 × Unit) ⊕ (Unit × Bool × KD0 × Unit))) (lk0 : (Unit × Unit × Int × KD0 × KD0 × Unit) → Bool) (x0 : Unit) (x1 : Unit) (x2 : Int) (x3 : KD0) (x4 : KD0) : Option ((Unit × Unit × Int × KD0 × KD0 × Unit) ⊕ ((Unit × Unit × KD0 × KD0 × Unit) ⊕ (Unit × Bool × KD0 × Unit))) :=
  (bif (decide (x2 < 3)) then
    (bif (decide ((if x3.1.1 > x3.2.1 then x3.1.1 else x3.2.1) > (if (ior .u64 x3.1.1 x3.1.2.1) < x3.2.2.1 then (ior .u64 x3.1.1 x3.1.2.1) else x3.2.2.1))) then
      some (.inr (.inr ((), false, ((0, (0, ())), (0, (0, ()))), ())))
    else
      (bif (!(v26 (x3.1, (v37 ((if x3.1.1 > x3.2.1 then x3.1.1 else x3.2.1), (if (ior .u64 x3.1.1 x3.1.2.1) < x3.2.2.1 then (ior .u64 x3.1.1 x3.1.2.1) else x3.2.2.1), ())), ())).2.1) then
        (bif (tt 2 ((k26 (x3.1, (v37 ((if x3.1.1 > x3.2.1 then x3.1.1 else x3.2.1), (if (ior .u64 x3.1.1 x3.1.2.1) < x3.2.2.1 then (ior .u64 x3.1.1 x3.1.2.1) else x3.2.2.1), ())), ())) && (tt 1 (k37 ((if x3.1.1 > x3.2.1 then x3.1.1 else x3.2.1), (if (ior .u64 x3.1.1 x3.1.2.1) < x3.2.2.1 then (ior .u64 x3.1.1 x3.1.2.1) else x3.2.2.1), ()))))) then some (.inr (.inr ((), false, ((0, (0, ())), (0, (0, ()))), ()))) else none)
      else
        (bif (tt 2 ((k26 (x3.1, (v37 ((if x3.1.1 > x3.2.1 then x3.1.1 else x3.2.1), (if (ior .u64 x3.1.1 x3.1.2.1) < x3.2.2.1 then (ior .u64 x3.1.1 x3.1.2.1) else x3.2.2.1), ())), ())) && (tt 1 (k37 ((if x3.1.1 > x3.2.1 then x3.1.1 else x3.2.1), (if (ior .u64 x3.1.1 x3.1.2.1) < x3.2.2.1 then (ior .u64 x3.1.1 x3.1.2.1) else x3.2.2.1), ()))))) then some (.inl ((), (), (IntKind.wrap .i64 (x2 + 1)), ((v26 (x3.1, (v37 ((if x3.1.1 > x3.2.1 then x3.1.1 else x3.2.1), (if (ior .u64 x3.1.1 x3.1.2.1) < x3.2.2.1 then (ior .u64 x3.1.1 x3.1.2.1) else x3.2.2.1), ())), ())).1, ((if x3.1.1 > x3.2.1 then x3.1.1 else x3.2.1), ((if (ior .u64 x3.1.1 x3.1.2.1) < x3.2.2.1 then (ior .u64 x3.1.1 x3.1.2.1) else x3.2.2.1), x3.2.2.2))), x4, ())) else none)))
  else
    some (.inr (.inl ((), (), x3, x4, ()))))
theorem r18_0 (v26 : ((Int × (Int × Unit)) × (Int × (Int × Unit)) × Unit) → KD2) (k26 : ((Int × (Int × Unit)) × (Int × (Int × Unit)) × Unit) → Bool) (v36 : ((Int × (Int × Unit)) × Unit) → Bool) (k36 : ((Int × (Int × Unit)) × Unit) → Bool) (v37 : (Int × Int × Unit) → (Int × (Int × Unit))) (k37 : (Int × Int × Unit) → Bool) (lv0 : (Unit × Unit × Int × KD0 × KD0 × Unit) → ((Unit × Unit × KD0 × KD0 × Unit) ⊕ (Unit × Bool × KD0 × Unit))) (lk0 : (Unit × Unit × Int × KD0 × KD0 × Unit) → Bool) (x0 : Unit) (x1 : Unit) (x2 : Int) (x3 : KD0) (x4 : KD0) : codeT (CxL Try.Θ (kOf [(26, sm [(.pair (.int .u64) KT1), (.pair (.int .u64) KT1)] KT3 v26 k26), (36, sm [(.pair (.int .u64) KT1)] .bool v36 k36), (37, sm [(.int .u64), (.int .u64)] (.pair (.int .u64) KT1) v37 k37)]) (lOf [(0, orc 57 26 0 hd18_0 ys18_0 lv0 lk0)])) (loopB 0 (bodyF Try.f18)) (mkS 57 26 hd18_0 (x0, x1, x2, x3, x4, ())) (leafR 57 hd18_0 ys18_0) = R18_0 v26 k26 v36 k36 v37 k37 lv0 lk0 x0 x1 x2 x3 x4 := by kernel_rfl
noncomputable def S18 (v26 : ((Int × (Int × Unit)) × (Int × (Int × Unit)) × Unit) → KD2) (k26 : ((Int × (Int × Unit)) × (Int × (Int × Unit)) × Unit) → Bool) (v36 : ((Int × (Int × Unit)) × Unit) → Bool) (k36 : ((Int × (Int × Unit)) × Unit) → Bool) (v37 : (Int × Int × Unit) → (Int × (Int × Unit))) (k37 : (Int × Int × Unit) → Bool) (lv0 : (Unit × Unit × Int × KD0 × KD0 × Unit) → ((Unit × Unit × KD0 × KD0 × Unit) ⊕ (Unit × Bool × KD0 × Unit))) (lk0 : (Unit × Unit × Int × KD0 × KD0 × Unit) → Bool) (a0 : KD0) : Option (KD0 × (Bool × Unit)) :=
  (bif (!(v36 (a0.1, ()))) then
    (bif (tt 1 (k36 (a0.1, ()))) then some (((0, (0, ())), (0, (0, ()))), false, ()) else none)
  else
    (bif (isL (lv0 ((), (), 0, a0, ((0, (0, ())), (0, (0, ()))), ()))) then
      (bif ((lk0 ((), (), 0, a0, ((0, (0, ())), (0, (0, ()))), ())) && (tt 2 (k36 (a0.1, ())))) then some ((getL (((), (), ((0, (0, ())), (0, (0, ()))), ((0, (0, ())), (0, (0, ()))), ()) : (Unit × Unit × KD0 × KD0 × Unit)) (lv0 ((), (), 0, a0, ((0, (0, ())), (0, (0, ()))), ()))).2.2.1, true, ()) else none)
    else
      (bif ((lk0 ((), (), 0, a0, ((0, (0, ())), (0, (0, ()))), ())) && (tt 2 (k36 (a0.1, ())))) then some ((getR (((), false, ((0, (0, ())), (0, (0, ()))), ()) : (Unit × Bool × KD0 × Unit)) (lv0 ((), (), 0, a0, ((0, (0, ())), (0, (0, ()))), ()))).2.2.1, (getR (((), false, ((0, (0, ())), (0, (0, ()))), ()) : (Unit × Bool × KD0 × Unit)) (lv0 ((), (), 0, a0, ((0, (0, ())), (0, (0, ()))), ()))).2.1, ()) else none)))
theorem t18 (v26 : ((Int × (Int × Unit)) × (Int × (Int × Unit)) × Unit) → KD2) (k26 : ((Int × (Int × Unit)) × (Int × (Int × Unit)) × Unit) → Bool) (v36 : ((Int × (Int × Unit)) × Unit) → Bool) (k36 : ((Int × (Int × Unit)) × Unit) → Bool) (v37 : (Int × Int × Unit) → (Int × (Int × Unit))) (k37 : (Int × Int × Unit) → Bool) (lv0 : (Unit × Unit × Int × KD0 × KD0 × Unit) → ((Unit × Unit × KD0 × KD0 × Unit) ⊕ (Unit × Bool × KD0 × Unit))) (lk0 : (Unit × Unit × Int × KD0 × KD0 × Unit) → Bool) (a0 : KD0) : fnT (CxL Try.Θ (kOf [(26, sm [(.pair (.int .u64) KT1), (.pair (.int .u64) KT1)] KT3 v26 k26), (36, sm [(.pair (.int .u64) KT1)] .bool v36 k36), (37, sm [(.int .u64), (.int .u64)] (.pair (.int .u64) KT1) v37 k37)]) (lOf [(0, orc 57 26 0 hd18_0 ys18_0 lv0 lk0)])) Try.f18 KT5 [⟨KT4, a0⟩] = S18 v26 k26 v36 k36 v37 k37 lv0 lk0 a0 := by kernel_rfl
noncomputable def S19 (v18 : (KD0 × Unit) → (KD0 × (Bool × Unit))) (k18 : (KD0 × Unit) → Bool) (a0 : KD0) : Option Bool :=
  (bif (v18 (a0, ())).2.1 then
    (bif (tt 1 (k18 (a0, ()))) then some (((decide ((v18 (a0, ())).1.1.1 = a0.1.1)) && (tt 1 (decide ((v18 (a0, ())).1.1.2.1 = a0.1.2.1)))) && ((decide ((v18 (a0, ())).1.2.1 = a0.2.1)) && (tt 1 (decide ((v18 (a0, ())).1.2.2.1 = a0.2.2.1))))) else none)
  else
    (bif (tt 1 (k18 (a0, ()))) then some false else none))
theorem t19 (v18 : (KD0 × Unit) → (KD0 × (Bool × Unit))) (k18 : (KD0 × Unit) → Bool) (a0 : KD0) : fnT (CxL Try.Θ (kOf [(18, sm [KT4] KT5 v18 k18)]) (lOf [])) Try.f19 .bool [⟨KT4, a0⟩] = S19 v18 k18 a0 := by kernel_rfl
noncomputable def S20  (a0 : Int) : Option KD0 :=
  some ((a0, (0, ())), (a0, (a0, ())))
theorem t20  (a0 : Int) : fnT (CxL Try.Θ (kOf []) (lOf [])) Try.f20 KT4 [⟨(.int .u64), a0⟩] = S20  a0 := by kernel_rfl
noncomputable def S7 (v18 : (KD0 × Unit) → (KD0 × (Bool × Unit))) (k18 : (KD0 × Unit) → Bool) (v19 : (KD0 × Unit) → Bool) (k19 : (KD0 × Unit) → Bool) (v20 : (Int × Unit) → KD0) (k20 : (Int × Unit) → Bool) (a0 : KD0) : Option KD0 :=
  (bif (decide (a0.2.1 > a0.2.2.1)) then
    (bif (v18 ((((iandn .u64 a0.1.1 a0.1.2.1), a0.1.2), (a0.2.2.1, (a0.2.1, a0.2.2.2))), ())).2.1 then
      (bif (v19 ((v18 ((((iandn .u64 a0.1.1 a0.1.2.1), a0.1.2), (a0.2.2.1, (a0.2.1, a0.2.2.2))), ())).1, ())) then
        (bif ((k19 ((v18 ((((iandn .u64 a0.1.1 a0.1.2.1), a0.1.2), (a0.2.2.1, (a0.2.1, a0.2.2.2))), ())).1, ())) && (tt 1 (k18 ((((iandn .u64 a0.1.1 a0.1.2.1), a0.1.2), (a0.2.2.1, (a0.2.1, a0.2.2.2))), ())))) then some (v18 ((((iandn .u64 a0.1.1 a0.1.2.1), a0.1.2), (a0.2.2.1, (a0.2.1, a0.2.2.2))), ())).1 else none)
      else
        (bif ((k20 ((iandn .u64 a0.1.1 a0.1.2.1), ())) && ((k19 ((v18 ((((iandn .u64 a0.1.1 a0.1.2.1), a0.1.2), (a0.2.2.1, (a0.2.1, a0.2.2.2))), ())).1, ())) && (tt 1 (k18 ((((iandn .u64 a0.1.1 a0.1.2.1), a0.1.2), (a0.2.2.1, (a0.2.1, a0.2.2.2))), ()))))) then some (v20 ((iandn .u64 a0.1.1 a0.1.2.1), ())) else none))
    else
      (bif ((k20 ((iandn .u64 a0.1.1 a0.1.2.1), ())) && (tt 1 (k18 ((((iandn .u64 a0.1.1 a0.1.2.1), a0.1.2), (a0.2.2.1, (a0.2.1, a0.2.2.2))), ())))) then some (v20 ((iandn .u64 a0.1.1 a0.1.2.1), ())) else none))
  else
    (bif (v18 ((((iandn .u64 a0.1.1 a0.1.2.1), a0.1.2), a0.2), ())).2.1 then
      (bif (v19 ((v18 ((((iandn .u64 a0.1.1 a0.1.2.1), a0.1.2), a0.2), ())).1, ())) then
        (bif ((k19 ((v18 ((((iandn .u64 a0.1.1 a0.1.2.1), a0.1.2), a0.2), ())).1, ())) && (tt 1 (k18 ((((iandn .u64 a0.1.1 a0.1.2.1), a0.1.2), a0.2), ())))) then some (v18 ((((iandn .u64 a0.1.1 a0.1.2.1), a0.1.2), a0.2), ())).1 else none)
      else
        (bif ((k20 ((iandn .u64 a0.1.1 a0.1.2.1), ())) && ((k19 ((v18 ((((iandn .u64 a0.1.1 a0.1.2.1), a0.1.2), a0.2), ())).1, ())) && (tt 1 (k18 ((((iandn .u64 a0.1.1 a0.1.2.1), a0.1.2), a0.2), ()))))) then some (v20 ((iandn .u64 a0.1.1 a0.1.2.1), ())) else none))
    else
      (bif ((k20 ((iandn .u64 a0.1.1 a0.1.2.1), ())) && (tt 1 (k18 ((((iandn .u64 a0.1.1 a0.1.2.1), a0.1.2), a0.2), ())))) then some (v20 ((iandn .u64 a0.1.1 a0.1.2.1), ())) else none)))
theorem t7 (v18 : (KD0 × Unit) → (KD0 × (Bool × Unit))) (k18 : (KD0 × Unit) → Bool) (v19 : (KD0 × Unit) → Bool) (k19 : (KD0 × Unit) → Bool) (v20 : (Int × Unit) → KD0) (k20 : (Int × Unit) → Bool) (a0 : KD0) : fnT (CxL Try.Θ (kOf [(18, sm [KT4] KT5 v18 k18), (19, sm [KT4] .bool v19 k19), (20, sm [(.int .u64)] KT4 v20 k20)]) (lOf [])) Try.f7 KT4 [⟨KT4, a0⟩] = S7 v18 k18 v19 k19 v20 k20 a0 := by kernel_rfl
def hd12_0 : List It := [.sl 0 (.int .i64), .ow 11 1 (.arr 2 (.int .i64)), .sl 12 (.int .i64), .sl 13 (.int .i64)]
def ys12_0 : Ways := [((.exit 0), []), (.ret, [.sl 2 (.int .i64)])]
noncomputable def R12_0 (lv0 : (Int × (List (List Int)) × Int × Int × Unit) → ((Unit) ⊕ (Int × Unit))) (lk0 : (Int × (List (List Int)) × Int × Int × Unit) → Bool) (x0 : Int) (x1 : (List (List Int))) (x2 : Int) (x3 : Int) : Option ((Int × (List (List Int)) × Int × Int × Unit) ⊕ ((Unit) ⊕ (Int × Unit))) :=
  (bif (decide (x3 < x2)) then
    (bif (decide (x0 = ((x1.getD (0 + (Int.toNat x3)) []).getD 0 0))) then
      (bif (tt 1 ((tt 1 (decide (((0 + (Int.toNat x3)) : Nat) < x1.length))) && (tt 1 ((decide (0 ≤ x3)) && (decide (x3 < ((x1.length : Nat) : Int))))))) then some (.inr (.inr (((x1.getD (0 + (Int.toNat x3)) []).getD 1 0), ()))) else none)
    else
      (bif (decide (x0 = ((x1.getD (0 + (Int.toNat x3)) []).getD 1 0))) then
        (bif (tt 1 ((tt 1 (decide (((0 + (Int.toNat x3)) : Nat) < x1.length))) && (tt 1 ((decide (0 ≤ x3)) && (decide (x3 < ((x1.length : Nat) : Int))))))) then some (.inr (.inr (((x1.getD (0 + (Int.toNat x3)) []).getD 0 0), ()))) else none)
      else
        (bif ((tt 1 (decide (((0 + x1.length) : Nat) ≤ x1.length))) && (tt 1 ((tt 1 (decide (((0 + (Int.toNat x3)) : Nat) < x1.length))) && (tt 1 ((decide (0 ≤ x3)) && (decide (x3 < ((x1.length : Nat) : Int)))))))) then some (.inl (x0, (sec [] x1 0 x1.length), x2, (IntKind.wrap .i64 (x3 + 1)), ())) else none)))
  else
    some (.inr (.inl (()))))
theorem r12_0 (lv0 : (Int × (List (List Int)) × Int × Int × Unit) → ((Unit) ⊕ (Int × Unit))) (lk0 : (Int × (List (List Int)) × Int × Int × Unit) → Bool) (x0 : Int) (x1 : (List (List Int))) (x2 : Int) (x3 : Int) : codeT (CxL Try.Θ (kOf []) (lOf [(0, orc 31 25 0 hd12_0 ys12_0 lv0 lk0)])) (loopB 0 (bodyF Try.f12)) (mkS 31 25 hd12_0 (x0, x1, x2, x3, ())) (leafR 31 hd12_0 ys12_0) = R12_0 lv0 lk0 x0 x1 x2 x3 := by kernel_rfl
noncomputable def S12 (lv0 : (Int × (List (List Int)) × Int × Int × Unit) → ((Unit) ⊕ (Int × Unit))) (lk0 : (Int × (List (List Int)) × Int × Int × Unit) → Bool) (a0 : Int) : Option Int :=
  (bif (isL (lv0 (a0, [[16, 80], [32, 176], [48, 160], [64, 68], [96, 208], [112, 192]], 6, 0, ()))) then
    (bif (tt 1 (lk0 (a0, [[16, 80], [32, 176], [48, 160], [64, 68], [96, 208], [112, 192]], 6, 0, ()))) then some (-1) else none)
  else
    (bif (tt 1 (lk0 (a0, [[16, 80], [32, 176], [48, 160], [64, 68], [96, 208], [112, 192]], 6, 0, ()))) then some (getR ((0, ()) : (Int × Unit)) (lv0 (a0, [[16, 80], [32, 176], [48, 160], [64, 68], [96, 208], [112, 192]], 6, 0, ()))).1 else none))
theorem t12 (lv0 : (Int × (List (List Int)) × Int × Int × Unit) → ((Unit) ⊕ (Int × Unit))) (lk0 : (Int × (List (List Int)) × Int × Int × Unit) → Bool) (a0 : Int) : fnT (CxL Try.Θ (kOf []) (lOf [(0, orc 31 25 0 hd12_0 ys12_0 lv0 lk0)])) Try.f12 (.int .i64) [⟨(.int .i64), a0⟩] = S12 lv0 lk0 a0 := by kernel_rfl
noncomputable def S21  (a0 : Int) : Option Int :=
  (bif (decide (a0 = 96)) then
    some 32
  else
    (bif (decide (a0 = 112)) then some 48 else (bif (decide (a0 = 192)) then some 160 else (bif (decide (a0 = 208)) then some 176 else some a0))))
theorem t21  (a0 : Int) : fnT (CxL Try.Θ (kOf []) (lOf [])) Try.f21 (.int .i64) [⟨(.int .i64), a0⟩] = S21  a0 := by kernel_rfl
noncomputable def S22  (a0 : KD0) : Option (Int × (Bool × Unit)) :=
  (bif (decide (a0.1.2.1 = 0)) then some (a0.1.1, true, ()) else some (0, false, ()))
theorem t22  (a0 : KD0) : fnT (CxL Try.Θ (kOf []) (lOf [])) Try.f22 KT6 [⟨KT4, a0⟩] = S22  a0 := by kernel_rfl
noncomputable def S38  (a0 : Int) (a1 : Int) : Option (Int × (Int × Unit)) :=
  some ((iandn .u64 a0 a1), (a1, ()))
theorem t38  (a0 : Int) (a1 : Int) : fnT (CxL Try.Θ (kOf []) (lOf [])) Try.f38 (.pair (.int .u64) KT1) [⟨(.int .u64), a0⟩, ⟨(.int .u64), a1⟩] = S38  a0 a1 := by kernel_rfl
noncomputable def S23 (v38 : (Int × Int × Unit) → (Int × (Int × Unit))) (k38 : (Int × Int × Unit) → Bool) (a0 : (Int × (Int × Unit))) (a1 : (Int × (Int × Unit))) : Option KD2 :=
  (bif (!(decide ((iandn .u64 (ixor .u64 a0.1 a1.1) (ior .u64 a0.2.1 a1.2.1)) = 0))) then
    some ((0, (0, ())), false, ())
  else
    (bif (tt 1 (k38 ((ior .u64 a0.1 a1.1), (iand .u64 a0.2.1 a1.2.1), ()))) then some ((v38 ((ior .u64 a0.1 a1.1), (iand .u64 a0.2.1 a1.2.1), ())), true, ()) else none))
theorem t23 (v38 : (Int × Int × Unit) → (Int × (Int × Unit))) (k38 : (Int × Int × Unit) → Bool) (a0 : (Int × (Int × Unit))) (a1 : (Int × (Int × Unit))) : fnT (CxL Try.Θ (kOf [(38, sm [(.int .u64), (.int .u64)] (.pair (.int .u64) KT1) v38 k38)]) (lOf [])) Try.f23 KT3 [⟨(.pair (.int .u64) KT1), a0⟩, ⟨(.pair (.int .u64) KT1), a1⟩] = S23 v38 k38 a0 a1 := by kernel_rfl
noncomputable def S47  (a0 : Int) : Option Int :=
  (bif (decide (a0 ≥ 4294967296)) then
    (bif (decide ((ishr .u64 a0 32) ≥ 65536)) then
      (bif (decide ((ishr .u64 (ishr .u64 a0 32) 16) ≥ 256)) then
        (bif (tt 1 ((decide (0 ≤ (IntKind.wrap .u8 (ishr .u64 (ishr .u64 (ishr .u64 a0 32) 16) 8)))) && (decide ((IntKind.wrap .u8 (ishr .u64 (ishr .u64 (ishr .u64 a0 32) 16) 8)) < 256)))) then some (IntKind.wrap .i64 (56 + (IntKind.wrap .i64 ((([0, 1, 2, 2, 3, 3, 3, 3, 4, 4, 4, 4, 4, 4, 4, 4, 5, 5, 5, 5, 5, 5, 5, 5, 5, 5, 5, 5, 5, 5, 5, 5, 6, 6, 6, 6, 6, 6, 6, 6, 6, 6, 6, 6, 6, 6, 6, 6, 6, 6, 6, 6, 6, 6, 6, 6, 6, 6, 6, 6, 6, 6, 6, 6, 7, 7, 7, 7, 7, 7, 7, 7, 7, 7, 7, 7, 7, 7, 7, 7, 7, 7, 7, 7, 7, 7, 7, 7, 7, 7, 7, 7, 7, 7, 7, 7, 7, 7, 7, 7, 7, 7, 7, 7, 7, 7, 7, 7, 7, 7, 7, 7, 7, 7, 7, 7, 7, 7, 7, 7, 7, 7, 7, 7, 7, 7, 7, 7, 8, 8, 8, 8, 8, 8, 8, 8, 8, 8, 8, 8, 8, 8, 8, 8, 8, 8, 8, 8, 8, 8, 8, 8, 8, 8, 8, 8, 8, 8, 8, 8, 8, 8, 8, 8, 8, 8, 8, 8, 8, 8, 8, 8, 8, 8, 8, 8, 8, 8, 8, 8, 8, 8, 8, 8, 8, 8, 8, 8, 8, 8, 8, 8, 8, 8, 8, 8, 8, 8, 8, 8, 8, 8, 8, 8, 8, 8, 8, 8, 8, 8, 8, 8, 8, 8, 8, 8, 8, 8, 8, 8, 8, 8, 8, 8, 8, 8, 8, 8, 8, 8, 8, 8, 8, 8, 8, 8, 8, 8, 8, 8, 8, 8, 8, 8, 8, 8, 8, 8, 8, 8, 8, 8, 8, 8, 8, 8] : List UInt8).getD (Int.toNat (IntKind.wrap .u8 (ishr .u64 (ishr .u64 (ishr .u64 a0 32) 16) 8))) 0).toNat : Int)))) else none)
      else
        (bif (tt 1 ((decide (0 ≤ (IntKind.wrap .u8 (ishr .u64 (ishr .u64 a0 32) 16)))) && (decide ((IntKind.wrap .u8 (ishr .u64 (ishr .u64 a0 32) 16)) < 256)))) then some (IntKind.wrap .i64 (48 + (IntKind.wrap .i64 ((([0, 1, 2, 2, 3, 3, 3, 3, 4, 4, 4, 4, 4, 4, 4, 4, 5, 5, 5, 5, 5, 5, 5, 5, 5, 5, 5, 5, 5, 5, 5, 5, 6, 6, 6, 6, 6, 6, 6, 6, 6, 6, 6, 6, 6, 6, 6, 6, 6, 6, 6, 6, 6, 6, 6, 6, 6, 6, 6, 6, 6, 6, 6, 6, 7, 7, 7, 7, 7, 7, 7, 7, 7, 7, 7, 7, 7, 7, 7, 7, 7, 7, 7, 7, 7, 7, 7, 7, 7, 7, 7, 7, 7, 7, 7, 7, 7, 7, 7, 7, 7, 7, 7, 7, 7, 7, 7, 7, 7, 7, 7, 7, 7, 7, 7, 7, 7, 7, 7, 7, 7, 7, 7, 7, 7, 7, 7, 7, 8, 8, 8, 8, 8, 8, 8, 8, 8, 8, 8, 8, 8, 8, 8, 8, 8, 8, 8, 8, 8, 8, 8, 8, 8, 8, 8, 8, 8, 8, 8, 8, 8, 8, 8, 8, 8, 8, 8, 8, 8, 8, 8, 8, 8, 8, 8, 8, 8, 8, 8, 8, 8, 8, 8, 8, 8, 8, 8, 8, 8, 8, 8, 8, 8, 8, 8, 8, 8, 8, 8, 8, 8, 8, 8, 8, 8, 8, 8, 8, 8, 8, 8, 8, 8, 8, 8, 8, 8, 8, 8, 8, 8, 8, 8, 8, 8, 8, 8, 8, 8, 8, 8, 8, 8, 8, 8, 8, 8, 8, 8, 8, 8, 8, 8, 8, 8, 8, 8, 8, 8, 8, 8, 8, 8, 8, 8, 8] : List UInt8).getD (Int.toNat (IntKind.wrap .u8 (ishr .u64 (ishr .u64 a0 32) 16))) 0).toNat : Int)))) else none))
    else
      (bif (decide ((ishr .u64 a0 32) ≥ 256)) then
        (bif (tt 1 ((decide (0 ≤ (IntKind.wrap .u8 (ishr .u64 (ishr .u64 a0 32) 8)))) && (decide ((IntKind.wrap .u8 (ishr .u64 (ishr .u64 a0 32) 8)) < 256)))) then some (IntKind.wrap .i64 (40 + (IntKind.wrap .i64 ((([0, 1, 2, 2, 3, 3, 3, 3, 4, 4, 4, 4, 4, 4, 4, 4, 5, 5, 5, 5, 5, 5, 5, 5, 5, 5, 5, 5, 5, 5, 5, 5, 6, 6, 6, 6, 6, 6, 6, 6, 6, 6, 6, 6, 6, 6, 6, 6, 6, 6, 6, 6, 6, 6, 6, 6, 6, 6, 6, 6, 6, 6, 6, 6, 7, 7, 7, 7, 7, 7, 7, 7, 7, 7, 7, 7, 7, 7, 7, 7, 7, 7, 7, 7, 7, 7, 7, 7, 7, 7, 7, 7, 7, 7, 7, 7, 7, 7, 7, 7, 7, 7, 7, 7, 7, 7, 7, 7, 7, 7, 7, 7, 7, 7, 7, 7, 7, 7, 7, 7, 7, 7, 7, 7, 7, 7, 7, 7, 8, 8, 8, 8, 8, 8, 8, 8, 8, 8, 8, 8, 8, 8, 8, 8, 8, 8, 8, 8, 8, 8, 8, 8, 8, 8, 8, 8, 8, 8, 8, 8, 8, 8, 8, 8, 8, 8, 8, 8, 8, 8, 8, 8, 8, 8, 8, 8, 8, 8, 8, 8, 8, 8, 8, 8, 8, 8, 8, 8, 8, 8, 8, 8, 8, 8, 8, 8, 8, 8, 8, 8, 8, 8, 8, 8, 8, 8, 8, 8, 8, 8, 8, 8, 8, 8, 8, 8, 8, 8, 8, 8, 8, 8, 8, 8, 8, 8, 8, 8, 8, 8, 8, 8, 8, 8, 8, 8, 8, 8, 8, 8, 8, 8, 8, 8, 8, 8, 8, 8, 8, 8, 8, 8, 8, 8, 8, 8] : List UInt8).getD (Int.toNat (IntKind.wrap .u8 (ishr .u64 (ishr .u64 a0 32) 8))) 0).toNat : Int)))) else none)
      else
        (bif (tt 1 ((decide (0 ≤ (IntKind.wrap .u8 (ishr .u64 a0 32)))) && (decide ((IntKind.wrap .u8 (ishr .u64 a0 32)) < 256)))) then some (IntKind.wrap .i64 (32 + (IntKind.wrap .i64 ((([0, 1, 2, 2, 3, 3, 3, 3, 4, 4, 4, 4, 4, 4, 4, 4, 5, 5, 5, 5, 5, 5, 5, 5, 5, 5, 5, 5, 5, 5, 5, 5, 6, 6, 6, 6, 6, 6, 6, 6, 6, 6, 6, 6, 6, 6, 6, 6, 6, 6, 6, 6, 6, 6, 6, 6, 6, 6, 6, 6, 6, 6, 6, 6, 7, 7, 7, 7, 7, 7, 7, 7, 7, 7, 7, 7, 7, 7, 7, 7, 7, 7, 7, 7, 7, 7, 7, 7, 7, 7, 7, 7, 7, 7, 7, 7, 7, 7, 7, 7, 7, 7, 7, 7, 7, 7, 7, 7, 7, 7, 7, 7, 7, 7, 7, 7, 7, 7, 7, 7, 7, 7, 7, 7, 7, 7, 7, 7, 8, 8, 8, 8, 8, 8, 8, 8, 8, 8, 8, 8, 8, 8, 8, 8, 8, 8, 8, 8, 8, 8, 8, 8, 8, 8, 8, 8, 8, 8, 8, 8, 8, 8, 8, 8, 8, 8, 8, 8, 8, 8, 8, 8, 8, 8, 8, 8, 8, 8, 8, 8, 8, 8, 8, 8, 8, 8, 8, 8, 8, 8, 8, 8, 8, 8, 8, 8, 8, 8, 8, 8, 8, 8, 8, 8, 8, 8, 8, 8, 8, 8, 8, 8, 8, 8, 8, 8, 8, 8, 8, 8, 8, 8, 8, 8, 8, 8, 8, 8, 8, 8, 8, 8, 8, 8, 8, 8, 8, 8, 8, 8, 8, 8, 8, 8, 8, 8, 8, 8, 8, 8, 8, 8, 8, 8, 8, 8] : List UInt8).getD (Int.toNat (IntKind.wrap .u8 (ishr .u64 a0 32))) 0).toNat : Int)))) else none)))
  else
    (bif (decide (a0 ≥ 65536)) then
      (bif (decide ((ishr .u64 a0 16) ≥ 256)) then
        (bif (tt 1 ((decide (0 ≤ (IntKind.wrap .u8 (ishr .u64 (ishr .u64 a0 16) 8)))) && (decide ((IntKind.wrap .u8 (ishr .u64 (ishr .u64 a0 16) 8)) < 256)))) then some (IntKind.wrap .i64 (24 + (IntKind.wrap .i64 ((([0, 1, 2, 2, 3, 3, 3, 3, 4, 4, 4, 4, 4, 4, 4, 4, 5, 5, 5, 5, 5, 5, 5, 5, 5, 5, 5, 5, 5, 5, 5, 5, 6, 6, 6, 6, 6, 6, 6, 6, 6, 6, 6, 6, 6, 6, 6, 6, 6, 6, 6, 6, 6, 6, 6, 6, 6, 6, 6, 6, 6, 6, 6, 6, 7, 7, 7, 7, 7, 7, 7, 7, 7, 7, 7, 7, 7, 7, 7, 7, 7, 7, 7, 7, 7, 7, 7, 7, 7, 7, 7, 7, 7, 7, 7, 7, 7, 7, 7, 7, 7, 7, 7, 7, 7, 7, 7, 7, 7, 7, 7, 7, 7, 7, 7, 7, 7, 7, 7, 7, 7, 7, 7, 7, 7, 7, 7, 7, 8, 8, 8, 8, 8, 8, 8, 8, 8, 8, 8, 8, 8, 8, 8, 8, 8, 8, 8, 8, 8, 8, 8, 8, 8, 8, 8, 8, 8, 8, 8, 8, 8, 8, 8, 8, 8, 8, 8, 8, 8, 8, 8, 8, 8, 8, 8, 8, 8, 8, 8, 8, 8, 8, 8, 8, 8, 8, 8, 8, 8, 8, 8, 8, 8, 8, 8, 8, 8, 8, 8, 8, 8, 8, 8, 8, 8, 8, 8, 8, 8, 8, 8, 8, 8, 8, 8, 8, 8, 8, 8, 8, 8, 8, 8, 8, 8, 8, 8, 8, 8, 8, 8, 8, 8, 8, 8, 8, 8, 8, 8, 8, 8, 8, 8, 8, 8, 8, 8, 8, 8, 8, 8, 8, 8, 8, 8, 8] : List UInt8).getD (Int.toNat (IntKind.wrap .u8 (ishr .u64 (ishr .u64 a0 16) 8))) 0).toNat : Int)))) else none)
      else
        (bif (tt 1 ((decide (0 ≤ (IntKind.wrap .u8 (ishr .u64 a0 16)))) && (decide ((IntKind.wrap .u8 (ishr .u64 a0 16)) < 256)))) then some (IntKind.wrap .i64 (16 + (IntKind.wrap .i64 ((([0, 1, 2, 2, 3, 3, 3, 3, 4, 4, 4, 4, 4, 4, 4, 4, 5, 5, 5, 5, 5, 5, 5, 5, 5, 5, 5, 5, 5, 5, 5, 5, 6, 6, 6, 6, 6, 6, 6, 6, 6, 6, 6, 6, 6, 6, 6, 6, 6, 6, 6, 6, 6, 6, 6, 6, 6, 6, 6, 6, 6, 6, 6, 6, 7, 7, 7, 7, 7, 7, 7, 7, 7, 7, 7, 7, 7, 7, 7, 7, 7, 7, 7, 7, 7, 7, 7, 7, 7, 7, 7, 7, 7, 7, 7, 7, 7, 7, 7, 7, 7, 7, 7, 7, 7, 7, 7, 7, 7, 7, 7, 7, 7, 7, 7, 7, 7, 7, 7, 7, 7, 7, 7, 7, 7, 7, 7, 7, 8, 8, 8, 8, 8, 8, 8, 8, 8, 8, 8, 8, 8, 8, 8, 8, 8, 8, 8, 8, 8, 8, 8, 8, 8, 8, 8, 8, 8, 8, 8, 8, 8, 8, 8, 8, 8, 8, 8, 8, 8, 8, 8, 8, 8, 8, 8, 8, 8, 8, 8, 8, 8, 8, 8, 8, 8, 8, 8, 8, 8, 8, 8, 8, 8, 8, 8, 8, 8, 8, 8, 8, 8, 8, 8, 8, 8, 8, 8, 8, 8, 8, 8, 8, 8, 8, 8, 8, 8, 8, 8, 8, 8, 8, 8, 8, 8, 8, 8, 8, 8, 8, 8, 8, 8, 8, 8, 8, 8, 8, 8, 8, 8, 8, 8, 8, 8, 8, 8, 8, 8, 8, 8, 8, 8, 8, 8, 8] : List UInt8).getD (Int.toNat (IntKind.wrap .u8 (ishr .u64 a0 16))) 0).toNat : Int)))) else none))
    else
      (bif (decide (a0 ≥ 256)) then
        (bif (tt 1 ((decide (0 ≤ (IntKind.wrap .u8 (ishr .u64 a0 8)))) && (decide ((IntKind.wrap .u8 (ishr .u64 a0 8)) < 256)))) then some (IntKind.wrap .i64 (8 + (IntKind.wrap .i64 ((([0, 1, 2, 2, 3, 3, 3, 3, 4, 4, 4, 4, 4, 4, 4, 4, 5, 5, 5, 5, 5, 5, 5, 5, 5, 5, 5, 5, 5, 5, 5, 5, 6, 6, 6, 6, 6, 6, 6, 6, 6, 6, 6, 6, 6, 6, 6, 6, 6, 6, 6, 6, 6, 6, 6, 6, 6, 6, 6, 6, 6, 6, 6, 6, 7, 7, 7, 7, 7, 7, 7, 7, 7, 7, 7, 7, 7, 7, 7, 7, 7, 7, 7, 7, 7, 7, 7, 7, 7, 7, 7, 7, 7, 7, 7, 7, 7, 7, 7, 7, 7, 7, 7, 7, 7, 7, 7, 7, 7, 7, 7, 7, 7, 7, 7, 7, 7, 7, 7, 7, 7, 7, 7, 7, 7, 7, 7, 7, 8, 8, 8, 8, 8, 8, 8, 8, 8, 8, 8, 8, 8, 8, 8, 8, 8, 8, 8, 8, 8, 8, 8, 8, 8, 8, 8, 8, 8, 8, 8, 8, 8, 8, 8, 8, 8, 8, 8, 8, 8, 8, 8, 8, 8, 8, 8, 8, 8, 8, 8, 8, 8, 8, 8, 8, 8, 8, 8, 8, 8, 8, 8, 8, 8, 8, 8, 8, 8, 8, 8, 8, 8, 8, 8, 8, 8, 8, 8, 8, 8, 8, 8, 8, 8, 8, 8, 8, 8, 8, 8, 8, 8, 8, 8, 8, 8, 8, 8, 8, 8, 8, 8, 8, 8, 8, 8, 8, 8, 8, 8, 8, 8, 8, 8, 8, 8, 8, 8, 8, 8, 8, 8, 8, 8, 8, 8, 8] : List UInt8).getD (Int.toNat (IntKind.wrap .u8 (ishr .u64 a0 8))) 0).toNat : Int)))) else none)
      else
        (bif (tt 1 ((decide (0 ≤ (IntKind.wrap .u8 a0))) && (decide ((IntKind.wrap .u8 a0) < 256)))) then some (IntKind.wrap .i64 (0 + (IntKind.wrap .i64 ((([0, 1, 2, 2, 3, 3, 3, 3, 4, 4, 4, 4, 4, 4, 4, 4, 5, 5, 5, 5, 5, 5, 5, 5, 5, 5, 5, 5, 5, 5, 5, 5, 6, 6, 6, 6, 6, 6, 6, 6, 6, 6, 6, 6, 6, 6, 6, 6, 6, 6, 6, 6, 6, 6, 6, 6, 6, 6, 6, 6, 6, 6, 6, 6, 7, 7, 7, 7, 7, 7, 7, 7, 7, 7, 7, 7, 7, 7, 7, 7, 7, 7, 7, 7, 7, 7, 7, 7, 7, 7, 7, 7, 7, 7, 7, 7, 7, 7, 7, 7, 7, 7, 7, 7, 7, 7, 7, 7, 7, 7, 7, 7, 7, 7, 7, 7, 7, 7, 7, 7, 7, 7, 7, 7, 7, 7, 7, 7, 8, 8, 8, 8, 8, 8, 8, 8, 8, 8, 8, 8, 8, 8, 8, 8, 8, 8, 8, 8, 8, 8, 8, 8, 8, 8, 8, 8, 8, 8, 8, 8, 8, 8, 8, 8, 8, 8, 8, 8, 8, 8, 8, 8, 8, 8, 8, 8, 8, 8, 8, 8, 8, 8, 8, 8, 8, 8, 8, 8, 8, 8, 8, 8, 8, 8, 8, 8, 8, 8, 8, 8, 8, 8, 8, 8, 8, 8, 8, 8, 8, 8, 8, 8, 8, 8, 8, 8, 8, 8, 8, 8, 8, 8, 8, 8, 8, 8, 8, 8, 8, 8, 8, 8, 8, 8, 8, 8, 8, 8, 8, 8, 8, 8, 8, 8, 8, 8, 8, 8, 8, 8, 8, 8, 8, 8, 8, 8] : List UInt8).getD (Int.toNat (IntKind.wrap .u8 a0)) 0).toNat : Int)))) else none))))
theorem t47  (a0 : Int) : fnT (CxL Try.Θ (kOf []) (lOf [])) Try.f47 (.int .i64) [⟨(.int .u64), a0⟩] = S47  a0 := by kernel_rfl
noncomputable def S46 (v38 : (Int × Int × Unit) → (Int × (Int × Unit))) (k38 : (Int × Int × Unit) → Bool) (v47 : (Int × Unit) → Int) (k47 : (Int × Unit) → Bool) (a0 : Int) (a1 : Int) : Option (Int × (Int × Unit)) :=
  (bif ((k38 (a0, (IntKind.wrap .u64 ((ishl .u64 1 (v47 ((ixor .u64 a0 a1), ()))) - 1)), ())) && ((decide (0 ≤ (v47 ((ixor .u64 a0 a1), ())))) && (tt 1 (k47 ((ixor .u64 a0 a1), ()))))) then some (v38 (a0, (IntKind.wrap .u64 ((ishl .u64 1 (v47 ((ixor .u64 a0 a1), ()))) - 1)), ())) else none)
theorem t46 (v38 : (Int × Int × Unit) → (Int × (Int × Unit))) (k38 : (Int × Int × Unit) → Bool) (v47 : (Int × Unit) → Int) (k47 : (Int × Unit) → Bool) (a0 : Int) (a1 : Int) : fnT (CxL Try.Θ (kOf [(38, sm [(.int .u64), (.int .u64)] (.pair (.int .u64) KT1) v38 k38), (47, sm [(.int .u64)] (.int .i64) v47 k47)]) (lOf [])) Try.f46 (.pair (.int .u64) KT1) [⟨(.int .u64), a0⟩, ⟨(.int .u64), a1⟩] = S46 v38 k38 v47 k47 a0 a1 := by kernel_rfl
def hd39_0 : List It := [.pt 1 ⟨0, [0]⟩, .pt 2 ⟨1, [0]⟩, .sl 4 .bool, .sl 13 (.int .i64), .bl 0 KT4, .bl 1 KT4]
def ys39_0 : Ways := [((.exit 0), [.pt 1 ⟨0, [0]⟩, .pt 2 ⟨1, [0]⟩, .sl 4 .bool, .bl 0 KT4, .bl 1 KT4])]
noncomputable def R39_0 (v23 : ((Int × (Int × Unit)) × (Int × (Int × Unit)) × Unit) → KD2) (k23 : ((Int × (Int × Unit)) × (Int × (Int × Unit)) × Unit) → Bool) (v46 : (Int × Int × Unit) → (Int × (Int × Unit))) (k46 : (Int × Int × Unit) → Bool) (lv0 : (Unit × Unit × Bool × Int × KD0 × KD0 × Unit) → (Unit × Unit × Bool × KD0 × KD0 × Unit)) (lk0 : (Unit × Unit × Bool × Int × KD0 × KD0 × Unit) → Bool) (x0 : Unit) (x1 : Unit) (x2 : Bool) (x3 : Int) (x4 : KD0) (x5 : KD0) : Option ((Unit × Unit × Bool × Int × KD0 × KD0 × Unit) ⊕ (Unit × Unit × Bool × KD0 × KD0 × Unit)) :=
  (bif (decide (x3 < 3)) then
    (bif x2 then
      (bif (decide ((if x4.1.1 > x4.2.1 then x4.1.1 else x4.2.1) ≤ (if (ior .u64 x4.1.1 x4.1.2.1) < x4.2.2.1 then (ior .u64 x4.1.1 x4.1.2.1) else x4.2.2.1))) then
        (bif (tt 2 ((k23 (x4.1, (v46 ((if x4.1.1 > x4.2.1 then x4.1.1 else x4.2.1), (if (ior .u64 x4.1.1 x4.1.2.1) < x4.2.2.1 then (ior .u64 x4.1.1 x4.1.2.1) else x4.2.2.1), ())), ())) && (tt 1 (k46 ((if x4.1.1 > x4.2.1 then x4.1.1 else x4.2.1), (if (ior .u64 x4.1.1 x4.1.2.1) < x4.2.2.1 then (ior .u64 x4.1.1 x4.1.2.1) else x4.2.2.1), ()))))) then some (.inl ((), (), (v23 (x4.1, (v46 ((if x4.1.1 > x4.2.1 then x4.1.1 else x4.2.1), (if (ior .u64 x4.1.1 x4.1.2.1) < x4.2.2.1 then (ior .u64 x4.1.1 x4.1.2.1) else x4.2.2.1), ())), ())).2.1, (IntKind.wrap .i64 (x3 + 1)), ((v23 (x4.1, (v46 ((if x4.1.1 > x4.2.1 then x4.1.1 else x4.2.1), (if (ior .u64 x4.1.1 x4.1.2.1) < x4.2.2.1 then (ior .u64 x4.1.1 x4.1.2.1) else x4.2.2.1), ())), ())).1, ((if x4.1.1 > x4.2.1 then x4.1.1 else x4.2.1), ((if (ior .u64 x4.1.1 x4.1.2.1) < x4.2.2.1 then (ior .u64 x4.1.1 x4.1.2.1) else x4.2.2.1), x4.2.2.2))), x5, ())) else none)
      else
        some (.inl ((), (), (decide ((if x4.1.1 > x4.2.1 then x4.1.1 else x4.2.1) ≤ (if (ior .u64 x4.1.1 x4.1.2.1) < x4.2.2.1 then (ior .u64 x4.1.1 x4.1.2.1) else x4.2.2.1))), (IntKind.wrap .i64 (x3 + 1)), (x4.1, ((if x4.1.1 > x4.2.1 then x4.1.1 else x4.2.1), ((if (ior .u64 x4.1.1 x4.1.2.1) < x4.2.2.1 then (ior .u64 x4.1.1 x4.1.2.1) else x4.2.2.1), x4.2.2.2))), x5, ())))
    else
      some (.inl ((), (), false, (IntKind.wrap .i64 (x3 + 1)), (x4.1, ((if x4.1.1 > x4.2.1 then x4.1.1 else x4.2.1), ((if (ior .u64 x4.1.1 x4.1.2.1) < x4.2.2.1 then (ior .u64 x4.1.1 x4.1.2.1) else x4.2.2.1), x4.2.2.2))), x5, ())))
  else
    some (.inr ((), (), x2, x4, x5, ())))
theorem r39_0 (v23 : ((Int × (Int × Unit)) × (Int × (Int × Unit)) × Unit) → KD2) (k23 : ((Int × (Int × Unit)) × (Int × (Int × Unit)) × Unit) → Bool) (v46 : (Int × Int × Unit) → (Int × (Int × Unit))) (k46 : (Int × Int × Unit) → Bool) (lv0 : (Unit × Unit × Bool × Int × KD0 × KD0 × Unit) → (Unit × Unit × Bool × KD0 × KD0 × Unit)) (lk0 : (Unit × Unit × Bool × Int × KD0 × KD0 × Unit) → Bool) (x0 : Unit) (x1 : Unit) (x2 : Bool) (x3 : Int) (x4 : KD0) (x5 : KD0) : codeT (CxL Try.Θ (kOf [(23, sm [(.pair (.int .u64) KT1), (.pair (.int .u64) KT1)] KT3 v23 k23), (46, sm [(.int .u64), (.int .u64)] (.pair (.int .u64) KT1) v46 k46)]) (lOf [(0, orc 59 26 0 hd39_0 ys39_0 lv0 lk0)])) (loopB 0 (bodyF Try.f39)) (mkS 59 26 hd39_0 (x0, x1, x2, x3, x4, x5, ())) (leafR 59 hd39_0 ys39_0) = R39_0 v23 k23 v46 k46 lv0 lk0 x0 x1 x2 x3 x4 x5 := by kernel_rfl
noncomputable def S39 (v23 : ((Int × (Int × Unit)) × (Int × (Int × Unit)) × Unit) → KD2) (k23 : ((Int × (Int × Unit)) × (Int × (Int × Unit)) × Unit) → Bool) (v46 : (Int × Int × Unit) → (Int × (Int × Unit))) (k46 : (Int × Int × Unit) → Bool) (lv0 : (Unit × Unit × Bool × Int × KD0 × KD0 × Unit) → (Unit × Unit × Bool × KD0 × KD0 × Unit)) (lk0 : (Unit × Unit × Bool × Int × KD0 × KD0 × Unit) → Bool) (a0 : KD0) : Option (KD0 × (Bool × Unit)) :=
  (bif (!(lv0 ((), (), (decide ((iand .u64 a0.1.1 a0.1.2.1) = 0)), 0, a0, ((0, (0, ())), (0, (0, ()))), ())).2.2.1) then
    (bif (tt 1 (lk0 ((), (), (decide ((iand .u64 a0.1.1 a0.1.2.1) = 0)), 0, a0, ((0, (0, ())), (0, (0, ()))), ()))) then some (((0, (0, ())), (0, (0, ()))), false, ()) else none)
  else
    (bif (tt 1 (lk0 ((), (), (decide ((iand .u64 a0.1.1 a0.1.2.1) = 0)), 0, a0, ((0, (0, ())), (0, (0, ()))), ()))) then some ((lv0 ((), (), (decide ((iand .u64 a0.1.1 a0.1.2.1) = 0)), 0, a0, ((0, (0, ())), (0, (0, ()))), ())).2.2.2.1, true, ()) else none))
theorem t39 (v23 : ((Int × (Int × Unit)) × (Int × (Int × Unit)) × Unit) → KD2) (k23 : ((Int × (Int × Unit)) × (Int × (Int × Unit)) × Unit) → Bool) (v46 : (Int × Int × Unit) → (Int × (Int × Unit))) (k46 : (Int × Int × Unit) → Bool) (lv0 : (Unit × Unit × Bool × Int × KD0 × KD0 × Unit) → (Unit × Unit × Bool × KD0 × KD0 × Unit)) (lk0 : (Unit × Unit × Bool × Int × KD0 × KD0 × Unit) → Bool) (a0 : KD0) : fnT (CxL Try.Θ (kOf [(23, sm [(.pair (.int .u64) KT1), (.pair (.int .u64) KT1)] KT3 v23 k23), (46, sm [(.int .u64), (.int .u64)] (.pair (.int .u64) KT1) v46 k46)]) (lOf [(0, orc 59 26 0 hd39_0 ys39_0 lv0 lk0)])) Try.f39 KT5 [⟨KT4, a0⟩] = S39 v23 k23 v46 k46 lv0 lk0 a0 := by kernel_rfl
noncomputable def S24 (v39 : (KD0 × Unit) → (KD0 × (Bool × Unit))) (k39 : (KD0 × Unit) → Bool) (a0 : KD0) (a1 : KD0) (a2 : Bool) : Option KD7 :=
  (bif (!a2) then
    (bif ((k39 (a1, ())) && (tt 1 (k39 (a0, ())))) then some (((0, (0, ())), (0, (0, ()))), ((0, (0, ())), (0, (0, ()))), false, ()) else none)
  else
    (bif (!(v39 (a0, ())).2.1) then
      (bif ((k39 (a1, ())) && (tt 1 (k39 (a0, ())))) then some (((0, (0, ())), (0, (0, ()))), ((0, (0, ())), (0, (0, ()))), false, ()) else none)
    else
      (bif (!(v39 (a1, ())).2.1) then
        (bif ((k39 (a1, ())) && (tt 1 (k39 (a0, ())))) then some (((0, (0, ())), (0, (0, ()))), ((0, (0, ())), (0, (0, ()))), false, ()) else none)
      else
        (bif ((k39 (a1, ())) && (tt 1 (k39 (a0, ())))) then some ((v39 (a0, ())).1, (v39 (a1, ())).1, true, ()) else none))))
theorem t24 (v39 : (KD0 × Unit) → (KD0 × (Bool × Unit))) (k39 : (KD0 × Unit) → Bool) (a0 : KD0) (a1 : KD0) (a2 : Bool) : fnT (CxL Try.Θ (kOf [(39, sm [KT4] KT5 v39 k39)]) (lOf [])) Try.f24 (.tup KT4 KT5) [⟨KT4, a0⟩, ⟨KT4, a1⟩, ⟨.bool, a2⟩] = S24 v39 k39 a0 a1 a2 := by kernel_rfl
noncomputable def S40  (a0 : KD0) (a1 : Int) : Option (KD0 × (Bool × Unit)) :=
  (bif (decide (a0.2.1 = a1)) then
    (bif (decide (a1 = 18446744073709551615)) then
      some (a0, false, ())
    else
      (bif (decide (a0.2.2.1 = a1)) then
        (bif (decide (a1 = 0)) then
          (bif (!(decide (a0.2.1 = a1))) then
            some (a0, false, ())
          else
            (bif (decide (a0.2.1 = a1)) then
              (bif (decide (a0.2.2.1 = a1)) then
                (bif (decide (a1 = 0)) then
                  some ((a0.1, ((IntKind.wrap .u64 (a0.2.1 + 1)), a0.2.2)), false, ())
                else
                  some ((a0.1, ((IntKind.wrap .u64 (a0.2.1 + 1)), ((IntKind.wrap .u64 (a0.2.2.1 - 1)), a0.2.2.2))), (decide ((IntKind.wrap .u64 (a0.2.1 + 1)) ≤ (IntKind.wrap .u64 (a0.2.2.1 - 1)))), ()))
              else
                some ((a0.1, ((IntKind.wrap .u64 (a0.2.1 + 1)), a0.2.2)), (decide ((IntKind.wrap .u64 (a0.2.1 + 1)) ≤ a0.2.2.1)), ()))
            else
              (bif (decide (a0.2.2.1 = a1)) then
                (bif (decide (a1 = 0)) then
                  some (a0, false, ())
                else
                  some ((a0.1, (a0.2.1, ((IntKind.wrap .u64 (a0.2.2.1 - 1)), a0.2.2.2))), (decide (a0.2.1 ≤ (IntKind.wrap .u64 (a0.2.2.1 - 1)))), ()))
              else
                some (a0, (decide (a0.2.1 ≤ a0.2.2.1)), ()))))
        else
          (bif (decide (a0.2.1 = a1)) then
            (bif (decide (a0.2.2.1 = a1)) then
              (bif (decide (a1 = 0)) then
                some ((a0.1, ((IntKind.wrap .u64 (a0.2.1 + 1)), a0.2.2)), false, ())
              else
                some ((a0.1, ((IntKind.wrap .u64 (a0.2.1 + 1)), ((IntKind.wrap .u64 (a0.2.2.1 - 1)), a0.2.2.2))), (decide ((IntKind.wrap .u64 (a0.2.1 + 1)) ≤ (IntKind.wrap .u64 (a0.2.2.1 - 1)))), ()))
            else
              some ((a0.1, ((IntKind.wrap .u64 (a0.2.1 + 1)), a0.2.2)), (decide ((IntKind.wrap .u64 (a0.2.1 + 1)) ≤ a0.2.2.1)), ()))
          else
            (bif (decide (a0.2.2.1 = a1)) then
              (bif (decide (a1 = 0)) then
                some (a0, false, ())
              else
                some ((a0.1, (a0.2.1, ((IntKind.wrap .u64 (a0.2.2.1 - 1)), a0.2.2.2))), (decide (a0.2.1 ≤ (IntKind.wrap .u64 (a0.2.2.1 - 1)))), ()))
            else
              some (a0, (decide (a0.2.1 ≤ a0.2.2.1)), ()))))
      else
        (bif (decide (a0.2.1 = a1)) then
          (bif (decide (a0.2.2.1 = a1)) then
            (bif (decide (a1 = 0)) then
              some ((a0.1, ((IntKind.wrap .u64 (a0.2.1 + 1)), a0.2.2)), false, ())
            else
              some ((a0.1, ((IntKind.wrap .u64 (a0.2.1 + 1)), ((IntKind.wrap .u64 (a0.2.2.1 - 1)), a0.2.2.2))), (decide ((IntKind.wrap .u64 (a0.2.1 + 1)) ≤ (IntKind.wrap .u64 (a0.2.2.1 - 1)))), ()))
          else
            some ((a0.1, ((IntKind.wrap .u64 (a0.2.1 + 1)), a0.2.2)), (decide ((IntKind.wrap .u64 (a0.2.1 + 1)) ≤ a0.2.2.1)), ()))
        else
          (bif (decide (a0.2.2.1 = a1)) then
            (bif (decide (a1 = 0)) then
              some (a0, false, ())
            else
              some ((a0.1, (a0.2.1, ((IntKind.wrap .u64 (a0.2.2.1 - 1)), a0.2.2.2))), (decide (a0.2.1 ≤ (IntKind.wrap .u64 (a0.2.2.1 - 1)))), ()))
          else
            some (a0, (decide (a0.2.1 ≤ a0.2.2.1)), ())))))
  else
    (bif (decide (a0.2.2.1 = a1)) then
      (bif (decide (a1 = 0)) then
        (bif (!(decide (a0.2.1 = a1))) then
          some (a0, false, ())
        else
          (bif (decide (a0.2.1 = a1)) then
            (bif (decide (a0.2.2.1 = a1)) then
              (bif (decide (a1 = 0)) then
                some ((a0.1, ((IntKind.wrap .u64 (a0.2.1 + 1)), a0.2.2)), false, ())
              else
                some ((a0.1, ((IntKind.wrap .u64 (a0.2.1 + 1)), ((IntKind.wrap .u64 (a0.2.2.1 - 1)), a0.2.2.2))), (decide ((IntKind.wrap .u64 (a0.2.1 + 1)) ≤ (IntKind.wrap .u64 (a0.2.2.1 - 1)))), ()))
            else
              some ((a0.1, ((IntKind.wrap .u64 (a0.2.1 + 1)), a0.2.2)), (decide ((IntKind.wrap .u64 (a0.2.1 + 1)) ≤ a0.2.2.1)), ()))
          else
            (bif (decide (a0.2.2.1 = a1)) then
              (bif (decide (a1 = 0)) then
                some (a0, false, ())
              else
                some ((a0.1, (a0.2.1, ((IntKind.wrap .u64 (a0.2.2.1 - 1)), a0.2.2.2))), (decide (a0.2.1 ≤ (IntKind.wrap .u64 (a0.2.2.1 - 1)))), ()))
            else
              some (a0, (decide (a0.2.1 ≤ a0.2.2.1)), ()))))
      else
        (bif (decide (a0.2.1 = a1)) then
          (bif (decide (a0.2.2.1 = a1)) then
            (bif (decide (a1 = 0)) then
              some ((a0.1, ((IntKind.wrap .u64 (a0.2.1 + 1)), a0.2.2)), false, ())
            else
              some ((a0.1, ((IntKind.wrap .u64 (a0.2.1 + 1)), ((IntKind.wrap .u64 (a0.2.2.1 - 1)), a0.2.2.2))), (decide ((IntKind.wrap .u64 (a0.2.1 + 1)) ≤ (IntKind.wrap .u64 (a0.2.2.1 - 1)))), ()))
          else
            some ((a0.1, ((IntKind.wrap .u64 (a0.2.1 + 1)), a0.2.2)), (decide ((IntKind.wrap .u64 (a0.2.1 + 1)) ≤ a0.2.2.1)), ()))
        else
          (bif (decide (a0.2.2.1 = a1)) then
            (bif (decide (a1 = 0)) then
              some (a0, false, ())
            else
              some ((a0.1, (a0.2.1, ((IntKind.wrap .u64 (a0.2.2.1 - 1)), a0.2.2.2))), (decide (a0.2.1 ≤ (IntKind.wrap .u64 (a0.2.2.1 - 1)))), ()))
          else
            some (a0, (decide (a0.2.1 ≤ a0.2.2.1)), ()))))
    else
      (bif (decide (a0.2.1 = a1)) then
        (bif (decide (a0.2.2.1 = a1)) then
          (bif (decide (a1 = 0)) then
            some ((a0.1, ((IntKind.wrap .u64 (a0.2.1 + 1)), a0.2.2)), false, ())
          else
            some ((a0.1, ((IntKind.wrap .u64 (a0.2.1 + 1)), ((IntKind.wrap .u64 (a0.2.2.1 - 1)), a0.2.2.2))), (decide ((IntKind.wrap .u64 (a0.2.1 + 1)) ≤ (IntKind.wrap .u64 (a0.2.2.1 - 1)))), ()))
        else
          some ((a0.1, ((IntKind.wrap .u64 (a0.2.1 + 1)), a0.2.2)), (decide ((IntKind.wrap .u64 (a0.2.1 + 1)) ≤ a0.2.2.1)), ()))
      else
        (bif (decide (a0.2.2.1 = a1)) then
          (bif (decide (a1 = 0)) then
            some (a0, false, ())
          else
            some ((a0.1, (a0.2.1, ((IntKind.wrap .u64 (a0.2.2.1 - 1)), a0.2.2.2))), (decide (a0.2.1 ≤ (IntKind.wrap .u64 (a0.2.2.1 - 1)))), ()))
        else
          some (a0, (decide (a0.2.1 ≤ a0.2.2.1)), ())))))
theorem t40  (a0 : KD0) (a1 : Int) : fnT (CxL Try.Θ (kOf []) (lOf [])) Try.f40 KT5 [⟨KT4, a0⟩, ⟨(.int .u64), a1⟩] = S40  a0 a1 := by kernel_rfl
noncomputable def S25 (v22 : (KD0 × Unit) → (Int × (Bool × Unit))) (k22 : (KD0 × Unit) → Bool) (v24 : (KD0 × KD0 × Bool × Unit) → KD7) (k24 : (KD0 × KD0 × Bool × Unit) → Bool) (v40 : (KD0 × Int × Unit) → (KD0 × (Bool × Unit))) (k40 : (KD0 × Int × Unit) → Bool) (a0 : KD0) (a1 : KD0) : Option KD7 :=
  (bif (v22 (a0, ())).2.1 then
    (bif (v22 (a1, ())).2.1 then
      (bif (v22 (a1, ())).2.1 then
        (bif (!(decide ((v22 (a0, ())).1 = (v22 (a1, ())).1))) then
          (bif (v22 (a0, ())).2.1 then
            (bif (v40 (a0, (v22 (a1, ())).1, ())).2.1 then
              (bif (v40 (a0, (v22 (a1, ())).1, ())).2.1 then
                (bif ((k24 ((v40 (a0, (v22 (a1, ())).1, ())).1, (v40 (a1, (v22 (a0, ())).1, ())).1, (v40 (a1, (v22 (a0, ())).1, ())).2.1, ())) && ((k40 (a1, (v22 (a0, ())).1, ())) && ((k40 (a0, (v22 (a1, ())).1, ())) && ((k22 (a1, ())) && (tt 1 (k22 (a0, ()))))))) then some ((v24 ((v40 (a0, (v22 (a1, ())).1, ())).1, (v40 (a1, (v22 (a0, ())).1, ())).1, (v40 (a1, (v22 (a0, ())).1, ())).2.1, ())).1, (v24 ((v40 (a0, (v22 (a1, ())).1, ())).1, (v40 (a1, (v22 (a0, ())).1, ())).1, (v40 (a1, (v22 (a0, ())).1, ())).2.1, ())).2.1, (v24 ((v40 (a0, (v22 (a1, ())).1, ())).1, (v40 (a1, (v22 (a0, ())).1, ())).1, (v40 (a1, (v22 (a0, ())).1, ())).2.1, ())).2.2.1, ()) else none)
              else
                (bif ((k24 ((v40 (a0, (v22 (a1, ())).1, ())).1, (v40 (a1, (v22 (a0, ())).1, ())).1, false, ())) && ((k40 (a1, (v22 (a0, ())).1, ())) && ((k40 (a0, (v22 (a1, ())).1, ())) && ((k22 (a1, ())) && (tt 1 (k22 (a0, ()))))))) then some ((v24 ((v40 (a0, (v22 (a1, ())).1, ())).1, (v40 (a1, (v22 (a0, ())).1, ())).1, false, ())).1, (v24 ((v40 (a0, (v22 (a1, ())).1, ())).1, (v40 (a1, (v22 (a0, ())).1, ())).1, false, ())).2.1, (v24 ((v40 (a0, (v22 (a1, ())).1, ())).1, (v40 (a1, (v22 (a0, ())).1, ())).1, false, ())).2.2.1, ()) else none))
            else
              (bif (v40 (a0, (v22 (a1, ())).1, ())).2.1 then
                (bif ((k24 ((v40 (a0, (v22 (a1, ())).1, ())).1, a1, true, ())) && ((k40 (a0, (v22 (a1, ())).1, ())) && ((k22 (a1, ())) && (tt 1 (k22 (a0, ())))))) then some ((v24 ((v40 (a0, (v22 (a1, ())).1, ())).1, a1, true, ())).1, (v24 ((v40 (a0, (v22 (a1, ())).1, ())).1, a1, true, ())).2.1, (v24 ((v40 (a0, (v22 (a1, ())).1, ())).1, a1, true, ())).2.2.1, ()) else none)
              else
                (bif ((k24 ((v40 (a0, (v22 (a1, ())).1, ())).1, a1, false, ())) && ((k40 (a0, (v22 (a1, ())).1, ())) && ((k22 (a1, ())) && (tt 1 (k22 (a0, ())))))) then some ((v24 ((v40 (a0, (v22 (a1, ())).1, ())).1, a1, false, ())).1, (v24 ((v40 (a0, (v22 (a1, ())).1, ())).1, a1, false, ())).2.1, (v24 ((v40 (a0, (v22 (a1, ())).1, ())).1, a1, false, ())).2.2.1, ()) else none)))
          else
            (bif (v40 (a0, (v22 (a1, ())).1, ())).2.1 then
              (bif ((k24 ((v40 (a0, (v22 (a1, ())).1, ())).1, a1, true, ())) && ((k40 (a0, (v22 (a1, ())).1, ())) && ((k22 (a1, ())) && (tt 1 (k22 (a0, ())))))) then some ((v24 ((v40 (a0, (v22 (a1, ())).1, ())).1, a1, true, ())).1, (v24 ((v40 (a0, (v22 (a1, ())).1, ())).1, a1, true, ())).2.1, (v24 ((v40 (a0, (v22 (a1, ())).1, ())).1, a1, true, ())).2.2.1, ()) else none)
            else
              (bif ((k24 ((v40 (a0, (v22 (a1, ())).1, ())).1, a1, false, ())) && ((k40 (a0, (v22 (a1, ())).1, ())) && ((k22 (a1, ())) && (tt 1 (k22 (a0, ())))))) then some ((v24 ((v40 (a0, (v22 (a1, ())).1, ())).1, a1, false, ())).1, (v24 ((v40 (a0, (v22 (a1, ())).1, ())).1, a1, false, ())).2.1, (v24 ((v40 (a0, (v22 (a1, ())).1, ())).1, a1, false, ())).2.2.1, ()) else none)))
        else
          (bif (v22 (a0, ())).2.1 then
            (bif (!(decide ((v22 (a0, ())).1 = (v22 (a1, ())).1))) then
              (bif (!(decide ((v22 (a0, ())).1 = (v22 (a1, ())).1))) then
                (bif ((k24 (a0, (v40 (a1, (v22 (a0, ())).1, ())).1, (v40 (a1, (v22 (a0, ())).1, ())).2.1, ())) && ((k40 (a1, (v22 (a0, ())).1, ())) && ((k22 (a1, ())) && (tt 1 (k22 (a0, ())))))) then some ((v24 (a0, (v40 (a1, (v22 (a0, ())).1, ())).1, (v40 (a1, (v22 (a0, ())).1, ())).2.1, ())).1, (v24 (a0, (v40 (a1, (v22 (a0, ())).1, ())).1, (v40 (a1, (v22 (a0, ())).1, ())).2.1, ())).2.1, (v24 (a0, (v40 (a1, (v22 (a0, ())).1, ())).1, (v40 (a1, (v22 (a0, ())).1, ())).2.1, ())).2.2.1, ()) else none)
              else
                (bif ((k24 (a0, (v40 (a1, (v22 (a0, ())).1, ())).1, false, ())) && ((k40 (a1, (v22 (a0, ())).1, ())) && ((k22 (a1, ())) && (tt 1 (k22 (a0, ())))))) then some ((v24 (a0, (v40 (a1, (v22 (a0, ())).1, ())).1, false, ())).1, (v24 (a0, (v40 (a1, (v22 (a0, ())).1, ())).1, false, ())).2.1, (v24 (a0, (v40 (a1, (v22 (a0, ())).1, ())).1, false, ())).2.2.1, ()) else none))
            else
              (bif (!(decide ((v22 (a0, ())).1 = (v22 (a1, ())).1))) then
                (bif ((k24 (a0, a1, true, ())) && ((k22 (a1, ())) && (tt 1 (k22 (a0, ()))))) then some ((v24 (a0, a1, true, ())).1, (v24 (a0, a1, true, ())).2.1, (v24 (a0, a1, true, ())).2.2.1, ()) else none)
              else
                (bif ((k24 (a0, a1, false, ())) && ((k22 (a1, ())) && (tt 1 (k22 (a0, ()))))) then some ((v24 (a0, a1, false, ())).1, (v24 (a0, a1, false, ())).2.1, (v24 (a0, a1, false, ())).2.2.1, ()) else none)))
          else
            (bif (!(decide ((v22 (a0, ())).1 = (v22 (a1, ())).1))) then
              (bif ((k24 (a0, a1, true, ())) && ((k22 (a1, ())) && (tt 1 (k22 (a0, ()))))) then some ((v24 (a0, a1, true, ())).1, (v24 (a0, a1, true, ())).2.1, (v24 (a0, a1, true, ())).2.2.1, ()) else none)
            else
              (bif ((k24 (a0, a1, false, ())) && ((k22 (a1, ())) && (tt 1 (k22 (a0, ()))))) then some ((v24 (a0, a1, false, ())).1, (v24 (a0, a1, false, ())).2.1, (v24 (a0, a1, false, ())).2.2.1, ()) else none))))
      else
        (bif (v22 (a0, ())).2.1 then
          (bif (!(decide ((v22 (a0, ())).1 = (v22 (a1, ())).1))) then
            (bif (!(decide ((v22 (a0, ())).1 = (v22 (a1, ())).1))) then
              (bif ((k24 (a0, (v40 (a1, (v22 (a0, ())).1, ())).1, (v40 (a1, (v22 (a0, ())).1, ())).2.1, ())) && ((k40 (a1, (v22 (a0, ())).1, ())) && ((k22 (a1, ())) && (tt 1 (k22 (a0, ())))))) then some ((v24 (a0, (v40 (a1, (v22 (a0, ())).1, ())).1, (v40 (a1, (v22 (a0, ())).1, ())).2.1, ())).1, (v24 (a0, (v40 (a1, (v22 (a0, ())).1, ())).1, (v40 (a1, (v22 (a0, ())).1, ())).2.1, ())).2.1, (v24 (a0, (v40 (a1, (v22 (a0, ())).1, ())).1, (v40 (a1, (v22 (a0, ())).1, ())).2.1, ())).2.2.1, ()) else none)
            else
              (bif ((k24 (a0, (v40 (a1, (v22 (a0, ())).1, ())).1, false, ())) && ((k40 (a1, (v22 (a0, ())).1, ())) && ((k22 (a1, ())) && (tt 1 (k22 (a0, ())))))) then some ((v24 (a0, (v40 (a1, (v22 (a0, ())).1, ())).1, false, ())).1, (v24 (a0, (v40 (a1, (v22 (a0, ())).1, ())).1, false, ())).2.1, (v24 (a0, (v40 (a1, (v22 (a0, ())).1, ())).1, false, ())).2.2.1, ()) else none))
          else
            (bif (!(decide ((v22 (a0, ())).1 = (v22 (a1, ())).1))) then
              (bif ((k24 (a0, a1, true, ())) && ((k22 (a1, ())) && (tt 1 (k22 (a0, ()))))) then some ((v24 (a0, a1, true, ())).1, (v24 (a0, a1, true, ())).2.1, (v24 (a0, a1, true, ())).2.2.1, ()) else none)
            else
              (bif ((k24 (a0, a1, false, ())) && ((k22 (a1, ())) && (tt 1 (k22 (a0, ()))))) then some ((v24 (a0, a1, false, ())).1, (v24 (a0, a1, false, ())).2.1, (v24 (a0, a1, false, ())).2.2.1, ()) else none)))
        else
          (bif (!(decide ((v22 (a0, ())).1 = (v22 (a1, ())).1))) then
            (bif ((k24 (a0, a1, true, ())) && ((k22 (a1, ())) && (tt 1 (k22 (a0, ()))))) then some ((v24 (a0, a1, true, ())).1, (v24 (a0, a1, true, ())).2.1, (v24 (a0, a1, true, ())).2.2.1, ()) else none)
          else
            (bif ((k24 (a0, a1, false, ())) && ((k22 (a1, ())) && (tt 1 (k22 (a0, ()))))) then some ((v24 (a0, a1, false, ())).1, (v24 (a0, a1, false, ())).2.1, (v24 (a0, a1, false, ())).2.2.1, ()) else none))))
    else
      (bif (v22 (a1, ())).2.1 then
        (bif (v22 (a0, ())).2.1 then
          (bif (v40 (a0, (v22 (a1, ())).1, ())).2.1 then
            (bif (v40 (a0, (v22 (a1, ())).1, ())).2.1 then
              (bif ((k24 ((v40 (a0, (v22 (a1, ())).1, ())).1, (v40 (a1, (v22 (a0, ())).1, ())).1, (v40 (a1, (v22 (a0, ())).1, ())).2.1, ())) && ((k40 (a1, (v22 (a0, ())).1, ())) && ((k40 (a0, (v22 (a1, ())).1, ())) && ((k22 (a1, ())) && (tt 1 (k22 (a0, ()))))))) then some ((v24 ((v40 (a0, (v22 (a1, ())).1, ())).1, (v40 (a1, (v22 (a0, ())).1, ())).1, (v40 (a1, (v22 (a0, ())).1, ())).2.1, ())).1, (v24 ((v40 (a0, (v22 (a1, ())).1, ())).1, (v40 (a1, (v22 (a0, ())).1, ())).1, (v40 (a1, (v22 (a0, ())).1, ())).2.1, ())).2.1, (v24 ((v40 (a0, (v22 (a1, ())).1, ())).1, (v40 (a1, (v22 (a0, ())).1, ())).1, (v40 (a1, (v22 (a0, ())).1, ())).2.1, ())).2.2.1, ()) else none)
            else
              (bif ((k24 ((v40 (a0, (v22 (a1, ())).1, ())).1, (v40 (a1, (v22 (a0, ())).1, ())).1, false, ())) && ((k40 (a1, (v22 (a0, ())).1, ())) && ((k40 (a0, (v22 (a1, ())).1, ())) && ((k22 (a1, ())) && (tt 1 (k22 (a0, ()))))))) then some ((v24 ((v40 (a0, (v22 (a1, ())).1, ())).1, (v40 (a1, (v22 (a0, ())).1, ())).1, false, ())).1, (v24 ((v40 (a0, (v22 (a1, ())).1, ())).1, (v40 (a1, (v22 (a0, ())).1, ())).1, false, ())).2.1, (v24 ((v40 (a0, (v22 (a1, ())).1, ())).1, (v40 (a1, (v22 (a0, ())).1, ())).1, false, ())).2.2.1, ()) else none))
          else
            (bif (v40 (a0, (v22 (a1, ())).1, ())).2.1 then
              (bif ((k24 ((v40 (a0, (v22 (a1, ())).1, ())).1, a1, true, ())) && ((k40 (a0, (v22 (a1, ())).1, ())) && ((k22 (a1, ())) && (tt 1 (k22 (a0, ())))))) then some ((v24 ((v40 (a0, (v22 (a1, ())).1, ())).1, a1, true, ())).1, (v24 ((v40 (a0, (v22 (a1, ())).1, ())).1, a1, true, ())).2.1, (v24 ((v40 (a0, (v22 (a1, ())).1, ())).1, a1, true, ())).2.2.1, ()) else none)
            else
              (bif ((k24 ((v40 (a0, (v22 (a1, ())).1, ())).1, a1, false, ())) && ((k40 (a0, (v22 (a1, ())).1, ())) && ((k22 (a1, ())) && (tt 1 (k22 (a0, ())))))) then some ((v24 ((v40 (a0, (v22 (a1, ())).1, ())).1, a1, false, ())).1, (v24 ((v40 (a0, (v22 (a1, ())).1, ())).1, a1, false, ())).2.1, (v24 ((v40 (a0, (v22 (a1, ())).1, ())).1, a1, false, ())).2.2.1, ()) else none)))
        else
          (bif (v40 (a0, (v22 (a1, ())).1, ())).2.1 then
            (bif ((k24 ((v40 (a0, (v22 (a1, ())).1, ())).1, a1, true, ())) && ((k40 (a0, (v22 (a1, ())).1, ())) && ((k22 (a1, ())) && (tt 1 (k22 (a0, ())))))) then some ((v24 ((v40 (a0, (v22 (a1, ())).1, ())).1, a1, true, ())).1, (v24 ((v40 (a0, (v22 (a1, ())).1, ())).1, a1, true, ())).2.1, (v24 ((v40 (a0, (v22 (a1, ())).1, ())).1, a1, true, ())).2.2.1, ()) else none)
          else
            (bif ((k24 ((v40 (a0, (v22 (a1, ())).1, ())).1, a1, false, ())) && ((k40 (a0, (v22 (a1, ())).1, ())) && ((k22 (a1, ())) && (tt 1 (k22 (a0, ())))))) then some ((v24 ((v40 (a0, (v22 (a1, ())).1, ())).1, a1, false, ())).1, (v24 ((v40 (a0, (v22 (a1, ())).1, ())).1, a1, false, ())).2.1, (v24 ((v40 (a0, (v22 (a1, ())).1, ())).1, a1, false, ())).2.2.1, ()) else none)))
      else
        (bif (v22 (a0, ())).2.1 then
          (bif ((k24 (a0, (v40 (a1, (v22 (a0, ())).1, ())).1, (v40 (a1, (v22 (a0, ())).1, ())).2.1, ())) && ((k40 (a1, (v22 (a0, ())).1, ())) && ((k22 (a1, ())) && (tt 1 (k22 (a0, ())))))) then some ((v24 (a0, (v40 (a1, (v22 (a0, ())).1, ())).1, (v40 (a1, (v22 (a0, ())).1, ())).2.1, ())).1, (v24 (a0, (v40 (a1, (v22 (a0, ())).1, ())).1, (v40 (a1, (v22 (a0, ())).1, ())).2.1, ())).2.1, (v24 (a0, (v40 (a1, (v22 (a0, ())).1, ())).1, (v40 (a1, (v22 (a0, ())).1, ())).2.1, ())).2.2.1, ()) else none)
        else
          (bif ((k24 (a0, a1, true, ())) && ((k22 (a1, ())) && (tt 1 (k22 (a0, ()))))) then some ((v24 (a0, a1, true, ())).1, (v24 (a0, a1, true, ())).2.1, (v24 (a0, a1, true, ())).2.2.1, ()) else none))))
  else
    (bif (v22 (a1, ())).2.1 then
      (bif (v22 (a0, ())).2.1 then
        (bif (v40 (a0, (v22 (a1, ())).1, ())).2.1 then
          (bif (v40 (a0, (v22 (a1, ())).1, ())).2.1 then
            (bif ((k24 ((v40 (a0, (v22 (a1, ())).1, ())).1, (v40 (a1, (v22 (a0, ())).1, ())).1, (v40 (a1, (v22 (a0, ())).1, ())).2.1, ())) && ((k40 (a1, (v22 (a0, ())).1, ())) && ((k40 (a0, (v22 (a1, ())).1, ())) && ((k22 (a1, ())) && (tt 1 (k22 (a0, ()))))))) then some ((v24 ((v40 (a0, (v22 (a1, ())).1, ())).1, (v40 (a1, (v22 (a0, ())).1, ())).1, (v40 (a1, (v22 (a0, ())).1, ())).2.1, ())).1, (v24 ((v40 (a0, (v22 (a1, ())).1, ())).1, (v40 (a1, (v22 (a0, ())).1, ())).1, (v40 (a1, (v22 (a0, ())).1, ())).2.1, ())).2.1, (v24 ((v40 (a0, (v22 (a1, ())).1, ())).1, (v40 (a1, (v22 (a0, ())).1, ())).1, (v40 (a1, (v22 (a0, ())).1, ())).2.1, ())).2.2.1, ()) else none)
          else
            (bif ((k24 ((v40 (a0, (v22 (a1, ())).1, ())).1, (v40 (a1, (v22 (a0, ())).1, ())).1, false, ())) && ((k40 (a1, (v22 (a0, ())).1, ())) && ((k40 (a0, (v22 (a1, ())).1, ())) && ((k22 (a1, ())) && (tt 1 (k22 (a0, ()))))))) then some ((v24 ((v40 (a0, (v22 (a1, ())).1, ())).1, (v40 (a1, (v22 (a0, ())).1, ())).1, false, ())).1, (v24 ((v40 (a0, (v22 (a1, ())).1, ())).1, (v40 (a1, (v22 (a0, ())).1, ())).1, false, ())).2.1, (v24 ((v40 (a0, (v22 (a1, ())).1, ())).1, (v40 (a1, (v22 (a0, ())).1, ())).1, false, ())).2.2.1, ()) else none))
        else
          (bif (v40 (a0, (v22 (a1, ())).1, ())).2.1 then
            (bif ((k24 ((v40 (a0, (v22 (a1, ())).1, ())).1, a1, true, ())) && ((k40 (a0, (v22 (a1, ())).1, ())) && ((k22 (a1, ())) && (tt 1 (k22 (a0, ())))))) then some ((v24 ((v40 (a0, (v22 (a1, ())).1, ())).1, a1, true, ())).1, (v24 ((v40 (a0, (v22 (a1, ())).1, ())).1, a1, true, ())).2.1, (v24 ((v40 (a0, (v22 (a1, ())).1, ())).1, a1, true, ())).2.2.1, ()) else none)
          else
            (bif ((k24 ((v40 (a0, (v22 (a1, ())).1, ())).1, a1, false, ())) && ((k40 (a0, (v22 (a1, ())).1, ())) && ((k22 (a1, ())) && (tt 1 (k22 (a0, ())))))) then some ((v24 ((v40 (a0, (v22 (a1, ())).1, ())).1, a1, false, ())).1, (v24 ((v40 (a0, (v22 (a1, ())).1, ())).1, a1, false, ())).2.1, (v24 ((v40 (a0, (v22 (a1, ())).1, ())).1, a1, false, ())).2.2.1, ()) else none)))
      else
        (bif (v40 (a0, (v22 (a1, ())).1, ())).2.1 then
          (bif ((k24 ((v40 (a0, (v22 (a1, ())).1, ())).1, a1, true, ())) && ((k40 (a0, (v22 (a1, ())).1, ())) && ((k22 (a1, ())) && (tt 1 (k22 (a0, ())))))) then some ((v24 ((v40 (a0, (v22 (a1, ())).1, ())).1, a1, true, ())).1, (v24 ((v40 (a0, (v22 (a1, ())).1, ())).1, a1, true, ())).2.1, (v24 ((v40 (a0, (v22 (a1, ())).1, ())).1, a1, true, ())).2.2.1, ()) else none)
        else
          (bif ((k24 ((v40 (a0, (v22 (a1, ())).1, ())).1, a1, false, ())) && ((k40 (a0, (v22 (a1, ())).1, ())) && ((k22 (a1, ())) && (tt 1 (k22 (a0, ())))))) then some ((v24 ((v40 (a0, (v22 (a1, ())).1, ())).1, a1, false, ())).1, (v24 ((v40 (a0, (v22 (a1, ())).1, ())).1, a1, false, ())).2.1, (v24 ((v40 (a0, (v22 (a1, ())).1, ())).1, a1, false, ())).2.2.1, ()) else none)))
    else
      (bif (v22 (a0, ())).2.1 then
        (bif ((k24 (a0, (v40 (a1, (v22 (a0, ())).1, ())).1, (v40 (a1, (v22 (a0, ())).1, ())).2.1, ())) && ((k40 (a1, (v22 (a0, ())).1, ())) && ((k22 (a1, ())) && (tt 1 (k22 (a0, ())))))) then some ((v24 (a0, (v40 (a1, (v22 (a0, ())).1, ())).1, (v40 (a1, (v22 (a0, ())).1, ())).2.1, ())).1, (v24 (a0, (v40 (a1, (v22 (a0, ())).1, ())).1, (v40 (a1, (v22 (a0, ())).1, ())).2.1, ())).2.1, (v24 (a0, (v40 (a1, (v22 (a0, ())).1, ())).1, (v40 (a1, (v22 (a0, ())).1, ())).2.1, ())).2.2.1, ()) else none)
      else
        (bif ((k24 (a0, a1, true, ())) && ((k22 (a1, ())) && (tt 1 (k22 (a0, ()))))) then some ((v24 (a0, a1, true, ())).1, (v24 (a0, a1, true, ())).2.1, (v24 (a0, a1, true, ())).2.2.1, ()) else none))))
theorem t25 (v22 : (KD0 × Unit) → (Int × (Bool × Unit))) (k22 : (KD0 × Unit) → Bool) (v24 : (KD0 × KD0 × Bool × Unit) → KD7) (k24 : (KD0 × KD0 × Bool × Unit) → Bool) (v40 : (KD0 × Int × Unit) → (KD0 × (Bool × Unit))) (k40 : (KD0 × Int × Unit) → Bool) (a0 : KD0) (a1 : KD0) : fnT (CxL Try.Θ (kOf [(22, sm [KT4] KT6 v22 k22), (24, sm [KT4, KT4, .bool] (.tup KT4 KT5) v24 k24), (40, sm [KT4, (.int .u64)] KT5 v40 k40)]) (lOf [])) Try.f25 (.tup KT4 KT5) [⟨KT4, a0⟩, ⟨KT4, a1⟩] = S25 v22 k22 v24 k24 v40 k40 a0 a1 := by kernel_rfl
noncomputable def S8_16 (k12 : (Int × Unit) → Bool) (k21 : (Int × Unit) → Bool) (v22 : (KD0 × Unit) → (Int × (Bool × Unit))) (k22 : (KD0 × Unit) → Bool) (v23 : ((Int × (Int × Unit)) × (Int × (Int × Unit)) × Unit) → KD2) (k23 : ((Int × (Int × Unit)) × (Int × (Int × Unit)) × Unit) → Bool) (v24 : (KD0 × KD0 × Bool × Unit) → KD7) (k24 : (KD0 × KD0 × Bool × Unit) → Bool) (a1 : Bool) (a2 : KD0) (a3 : KD0) : Option KD7 :=
  (bif (!a1) then
    (bif (!(decide ((ishr .u64 (ior .u64 a2.2.2.1 a3.2.2.1) 32) = 0))) then
      some (a2, a3, true, ())
    else
      (bif ((k24 (((v23 (a2.1, a3.1, ())).1, ((if a3.2.1 > a2.2.1 then a3.2.1 else a2.2.1), ((if a3.2.2.1 < a2.2.2.1 then a3.2.2.1 else a2.2.2.1), ()))), ((v23 (a2.1, a3.1, ())).1, ((if a3.2.1 > a2.2.1 then a3.2.1 else a2.2.1), ((if a3.2.2.1 < a2.2.2.1 then a3.2.2.1 else a2.2.2.1), ()))), (v23 (a2.1, a3.1, ())).2.1, ())) && ((k23 (a2.1, a3.1, ())) && ((k22 (a3, ())) && ((k21 (16, ())) && ((k21 (16, ())) && (tt 1 (k12 (16, ())))))))) then some ((v24 (((v23 (a2.1, a3.1, ())).1, ((if a3.2.1 > a2.2.1 then a3.2.1 else a2.2.1), ((if a3.2.2.1 < a2.2.2.1 then a3.2.2.1 else a2.2.2.1), ()))), ((v23 (a2.1, a3.1, ())).1, ((if a3.2.1 > a2.2.1 then a3.2.1 else a2.2.1), ((if a3.2.2.1 < a2.2.2.1 then a3.2.2.1 else a2.2.2.1), ()))), (v23 (a2.1, a3.1, ())).2.1, ())).1, (v24 (((v23 (a2.1, a3.1, ())).1, ((if a3.2.1 > a2.2.1 then a3.2.1 else a2.2.1), ((if a3.2.2.1 < a2.2.2.1 then a3.2.2.1 else a2.2.2.1), ()))), ((v23 (a2.1, a3.1, ())).1, ((if a3.2.1 > a2.2.1 then a3.2.1 else a2.2.1), ((if a3.2.2.1 < a2.2.2.1 then a3.2.2.1 else a2.2.2.1), ()))), (v23 (a2.1, a3.1, ())).2.1, ())).2.1, (v24 (((v23 (a2.1, a3.1, ())).1, ((if a3.2.1 > a2.2.1 then a3.2.1 else a2.2.1), ((if a3.2.2.1 < a2.2.2.1 then a3.2.2.1 else a2.2.2.1), ()))), ((v23 (a2.1, a3.1, ())).1, ((if a3.2.1 > a2.2.1 then a3.2.1 else a2.2.1), ((if a3.2.2.1 < a2.2.2.1 then a3.2.2.1 else a2.2.2.1), ()))), (v23 (a2.1, a3.1, ())).2.1, ())).2.2.1, ()) else none))
  else
    (bif ((k24 (((v23 (a2.1, a3.1, ())).1, ((if a3.2.1 > a2.2.1 then a3.2.1 else a2.2.1), ((if a3.2.2.1 < a2.2.2.1 then a3.2.2.1 else a2.2.2.1), ()))), ((v23 (a2.1, a3.1, ())).1, ((if a3.2.1 > a2.2.1 then a3.2.1 else a2.2.1), ((if a3.2.2.1 < a2.2.2.1 then a3.2.2.1 else a2.2.2.1), ()))), (v23 (a2.1, a3.1, ())).2.1, ())) && ((k23 (a2.1, a3.1, ())) && ((k22 (a3, ())) && ((k21 (16, ())) && ((k21 (16, ())) && (tt 1 (k12 (16, ())))))))) then some ((v24 (((v23 (a2.1, a3.1, ())).1, ((if a3.2.1 > a2.2.1 then a3.2.1 else a2.2.1), ((if a3.2.2.1 < a2.2.2.1 then a3.2.2.1 else a2.2.2.1), ()))), ((v23 (a2.1, a3.1, ())).1, ((if a3.2.1 > a2.2.1 then a3.2.1 else a2.2.1), ((if a3.2.2.1 < a2.2.2.1 then a3.2.2.1 else a2.2.2.1), ()))), (v23 (a2.1, a3.1, ())).2.1, ())).1, (v24 (((v23 (a2.1, a3.1, ())).1, ((if a3.2.1 > a2.2.1 then a3.2.1 else a2.2.1), ((if a3.2.2.1 < a2.2.2.1 then a3.2.2.1 else a2.2.2.1), ()))), ((v23 (a2.1, a3.1, ())).1, ((if a3.2.1 > a2.2.1 then a3.2.1 else a2.2.1), ((if a3.2.2.1 < a2.2.2.1 then a3.2.2.1 else a2.2.2.1), ()))), (v23 (a2.1, a3.1, ())).2.1, ())).2.1, (v24 (((v23 (a2.1, a3.1, ())).1, ((if a3.2.1 > a2.2.1 then a3.2.1 else a2.2.1), ((if a3.2.2.1 < a2.2.2.1 then a3.2.2.1 else a2.2.2.1), ()))), ((v23 (a2.1, a3.1, ())).1, ((if a3.2.1 > a2.2.1 then a3.2.1 else a2.2.1), ((if a3.2.2.1 < a2.2.2.1 then a3.2.2.1 else a2.2.2.1), ()))), (v23 (a2.1, a3.1, ())).2.1, ())).2.2.1, ()) else none))
theorem t8_16 (k12 : (Int × Unit) → Bool) (k21 : (Int × Unit) → Bool) (v22 : (KD0 × Unit) → (Int × (Bool × Unit))) (k22 : (KD0 × Unit) → Bool) (v23 : ((Int × (Int × Unit)) × (Int × (Int × Unit)) × Unit) → KD2) (k23 : ((Int × (Int × Unit)) × (Int × (Int × Unit)) × Unit) → Bool) (v24 : (KD0 × KD0 × Bool × Unit) → KD7) (k24 : (KD0 × KD0 × Bool × Unit) → Bool) (a1 : Bool) (a2 : KD0) (a3 : KD0) : fnT (CxL Try.Θ (kOf [(12, sm [(.int .i64)] (.int .i64) (fun _ => 80) k12), (21, sm [(.int .i64)] (.int .i64) (fun _ => 16) k21), (22, sm [KT4] KT6 v22 k22), (23, sm [(.pair (.int .u64) KT1), (.pair (.int .u64) KT1)] KT3 v23 k23), (24, sm [KT4, KT4, .bool] (.tup KT4 KT5) v24 k24)]) (lOf [])) Try.f8 (.tup KT4 KT5) [⟨(.int .i64), 16⟩, ⟨.bool, a1⟩, ⟨KT4, a2⟩, ⟨KT4, a3⟩] = S8_16 k12 k21 v22 k22 v23 k23 v24 k24 a1 a2 a3 := by kernel_rfl
noncomputable def S8_32 (k12 : (Int × Unit) → Bool) (k21 : (Int × Unit) → Bool) (v22 : (KD0 × Unit) → (Int × (Bool × Unit))) (k22 : (KD0 × Unit) → Bool) (v24 : (KD0 × KD0 × Bool × Unit) → KD7) (k24 : (KD0 × KD0 × Bool × Unit) → Bool) (a1 : Bool) (a2 : KD0) (a3 : KD0) : Option KD7 :=
  (bif (!a1) then
    (bif (!(decide ((ishr .u64 (ior .u64 a2.2.2.1 a3.2.2.1) 32) = 0))) then
      some (a2, a3, true, ())
    else
      (bif (!(decide (a3.2.1 = 18446744073709551615))) then
        (bif (!(decide (a2.2.2.1 = 0))) then
          (bif ((k24 ((a2.1, ((if (IntKind.wrap .u64 (a3.2.1 + 1)) > a2.2.1 then (IntKind.wrap .u64 (a3.2.1 + 1)) else a2.2.1), a2.2.2)), (a3.1, (a3.2.1, ((if (IntKind.wrap .u64 (a2.2.2.1 - 1)) < a3.2.2.1 then (IntKind.wrap .u64 (a2.2.2.1 - 1)) else a3.2.2.1), a3.2.2.2))), (!(decide (a2.2.2.1 = 0))), ())) && ((k22 (a3, ())) && ((k21 (32, ())) && ((k21 (32, ())) && (tt 1 (k12 (32, ()))))))) then some ((v24 ((a2.1, ((if (IntKind.wrap .u64 (a3.2.1 + 1)) > a2.2.1 then (IntKind.wrap .u64 (a3.2.1 + 1)) else a2.2.1), a2.2.2)), (a3.1, (a3.2.1, ((if (IntKind.wrap .u64 (a2.2.2.1 - 1)) < a3.2.2.1 then (IntKind.wrap .u64 (a2.2.2.1 - 1)) else a3.2.2.1), a3.2.2.2))), (!(decide (a2.2.2.1 = 0))), ())).1, (v24 ((a2.1, ((if (IntKind.wrap .u64 (a3.2.1 + 1)) > a2.2.1 then (IntKind.wrap .u64 (a3.2.1 + 1)) else a2.2.1), a2.2.2)), (a3.1, (a3.2.1, ((if (IntKind.wrap .u64 (a2.2.2.1 - 1)) < a3.2.2.1 then (IntKind.wrap .u64 (a2.2.2.1 - 1)) else a3.2.2.1), a3.2.2.2))), (!(decide (a2.2.2.1 = 0))), ())).2.1, (v24 ((a2.1, ((if (IntKind.wrap .u64 (a3.2.1 + 1)) > a2.2.1 then (IntKind.wrap .u64 (a3.2.1 + 1)) else a2.2.1), a2.2.2)), (a3.1, (a3.2.1, ((if (IntKind.wrap .u64 (a2.2.2.1 - 1)) < a3.2.2.1 then (IntKind.wrap .u64 (a2.2.2.1 - 1)) else a3.2.2.1), a3.2.2.2))), (!(decide (a2.2.2.1 = 0))), ())).2.2.1, ()) else none)
        else
          (bif ((k24 (a2, a3, (!(decide (a2.2.2.1 = 0))), ())) && ((k22 (a3, ())) && ((k21 (32, ())) && ((k21 (32, ())) && (tt 1 (k12 (32, ()))))))) then some ((v24 (a2, a3, (!(decide (a2.2.2.1 = 0))), ())).1, (v24 (a2, a3, (!(decide (a2.2.2.1 = 0))), ())).2.1, (v24 (a2, a3, (!(decide (a2.2.2.1 = 0))), ())).2.2.1, ()) else none))
      else
        (bif ((k24 (a2, a3, false, ())) && ((k22 (a3, ())) && ((k21 (32, ())) && ((k21 (32, ())) && (tt 1 (k12 (32, ()))))))) then some ((v24 (a2, a3, false, ())).1, (v24 (a2, a3, false, ())).2.1, (v24 (a2, a3, false, ())).2.2.1, ()) else none)))
  else
    (bif (!(decide (a3.2.1 = 18446744073709551615))) then
      (bif (!(decide (a2.2.2.1 = 0))) then
        (bif ((k24 ((a2.1, ((if (IntKind.wrap .u64 (a3.2.1 + 1)) > a2.2.1 then (IntKind.wrap .u64 (a3.2.1 + 1)) else a2.2.1), a2.2.2)), (a3.1, (a3.2.1, ((if (IntKind.wrap .u64 (a2.2.2.1 - 1)) < a3.2.2.1 then (IntKind.wrap .u64 (a2.2.2.1 - 1)) else a3.2.2.1), a3.2.2.2))), (!(decide (a2.2.2.1 = 0))), ())) && ((k22 (a3, ())) && ((k21 (32, ())) && ((k21 (32, ())) && (tt 1 (k12 (32, ()))))))) then some ((v24 ((a2.1, ((if (IntKind.wrap .u64 (a3.2.1 + 1)) > a2.2.1 then (IntKind.wrap .u64 (a3.2.1 + 1)) else a2.2.1), a2.2.2)), (a3.1, (a3.2.1, ((if (IntKind.wrap .u64 (a2.2.2.1 - 1)) < a3.2.2.1 then (IntKind.wrap .u64 (a2.2.2.1 - 1)) else a3.2.2.1), a3.2.2.2))), (!(decide (a2.2.2.1 = 0))), ())).1, (v24 ((a2.1, ((if (IntKind.wrap .u64 (a3.2.1 + 1)) > a2.2.1 then (IntKind.wrap .u64 (a3.2.1 + 1)) else a2.2.1), a2.2.2)), (a3.1, (a3.2.1, ((if (IntKind.wrap .u64 (a2.2.2.1 - 1)) < a3.2.2.1 then (IntKind.wrap .u64 (a2.2.2.1 - 1)) else a3.2.2.1), a3.2.2.2))), (!(decide (a2.2.2.1 = 0))), ())).2.1, (v24 ((a2.1, ((if (IntKind.wrap .u64 (a3.2.1 + 1)) > a2.2.1 then (IntKind.wrap .u64 (a3.2.1 + 1)) else a2.2.1), a2.2.2)), (a3.1, (a3.2.1, ((if (IntKind.wrap .u64 (a2.2.2.1 - 1)) < a3.2.2.1 then (IntKind.wrap .u64 (a2.2.2.1 - 1)) else a3.2.2.1), a3.2.2.2))), (!(decide (a2.2.2.1 = 0))), ())).2.2.1, ()) else none)
      else
        (bif ((k24 (a2, a3, (!(decide (a2.2.2.1 = 0))), ())) && ((k22 (a3, ())) && ((k21 (32, ())) && ((k21 (32, ())) && (tt 1 (k12 (32, ()))))))) then some ((v24 (a2, a3, (!(decide (a2.2.2.1 = 0))), ())).1, (v24 (a2, a3, (!(decide (a2.2.2.1 = 0))), ())).2.1, (v24 (a2, a3, (!(decide (a2.2.2.1 = 0))), ())).2.2.1, ()) else none))
    else
      (bif ((k24 (a2, a3, false, ())) && ((k22 (a3, ())) && ((k21 (32, ())) && ((k21 (32, ())) && (tt 1 (k12 (32, ()))))))) then some ((v24 (a2, a3, false, ())).1, (v24 (a2, a3, false, ())).2.1, (v24 (a2, a3, false, ())).2.2.1, ()) else none)))
theorem t8_32 (k12 : (Int × Unit) → Bool) (k21 : (Int × Unit) → Bool) (v22 : (KD0 × Unit) → (Int × (Bool × Unit))) (k22 : (KD0 × Unit) → Bool) (v24 : (KD0 × KD0 × Bool × Unit) → KD7) (k24 : (KD0 × KD0 × Bool × Unit) → Bool) (a1 : Bool) (a2 : KD0) (a3 : KD0) : fnT (CxL Try.Θ (kOf [(12, sm [(.int .i64)] (.int .i64) (fun _ => 176) k12), (21, sm [(.int .i64)] (.int .i64) (fun _ => 32) k21), (22, sm [KT4] KT6 v22 k22), (24, sm [KT4, KT4, .bool] (.tup KT4 KT5) v24 k24)]) (lOf [])) Try.f8 (.tup KT4 KT5) [⟨(.int .i64), 32⟩, ⟨.bool, a1⟩, ⟨KT4, a2⟩, ⟨KT4, a3⟩] = S8_32 k12 k21 v22 k22 v24 k24 a1 a2 a3 := by kernel_rfl
noncomputable def S8_48 (k12 : (Int × Unit) → Bool) (k21 : (Int × Unit) → Bool) (v22 : (KD0 × Unit) → (Int × (Bool × Unit))) (k22 : (KD0 × Unit) → Bool) (v24 : (KD0 × KD0 × Bool × Unit) → KD7) (k24 : (KD0 × KD0 × Bool × Unit) → Bool) (a1 : Bool) (a2 : KD0) (a3 : KD0) : Option KD7 :=
  (bif (!a1) then
    (bif (!(decide ((ishr .u64 (ior .u64 a2.2.2.1 a3.2.2.1) 32) = 0))) then
      some (a2, a3, true, ())
    else
      (bif ((k24 ((a2.1, ((if (IntKind.wrap .u64 (a3.2.1 + 0)) > a2.2.1 then (IntKind.wrap .u64 (a3.2.1 + 0)) else a2.2.1), a2.2.2)), (a3.1, (a3.2.1, ((if (IntKind.wrap .u64 (a2.2.2.1 - 0)) < a3.2.2.1 then (IntKind.wrap .u64 (a2.2.2.1 - 0)) else a3.2.2.1), a3.2.2.2))), true, ())) && ((k22 (a3, ())) && ((k21 (48, ())) && ((k21 (48, ())) && (tt 1 (k12 (48, ()))))))) then some ((v24 ((a2.1, ((if (IntKind.wrap .u64 (a3.2.1 + 0)) > a2.2.1 then (IntKind.wrap .u64 (a3.2.1 + 0)) else a2.2.1), a2.2.2)), (a3.1, (a3.2.1, ((if (IntKind.wrap .u64 (a2.2.2.1 - 0)) < a3.2.2.1 then (IntKind.wrap .u64 (a2.2.2.1 - 0)) else a3.2.2.1), a3.2.2.2))), true, ())).1, (v24 ((a2.1, ((if (IntKind.wrap .u64 (a3.2.1 + 0)) > a2.2.1 then (IntKind.wrap .u64 (a3.2.1 + 0)) else a2.2.1), a2.2.2)), (a3.1, (a3.2.1, ((if (IntKind.wrap .u64 (a2.2.2.1 - 0)) < a3.2.2.1 then (IntKind.wrap .u64 (a2.2.2.1 - 0)) else a3.2.2.1), a3.2.2.2))), true, ())).2.1, (v24 ((a2.1, ((if (IntKind.wrap .u64 (a3.2.1 + 0)) > a2.2.1 then (IntKind.wrap .u64 (a3.2.1 + 0)) else a2.2.1), a2.2.2)), (a3.1, (a3.2.1, ((if (IntKind.wrap .u64 (a2.2.2.1 - 0)) < a3.2.2.1 then (IntKind.wrap .u64 (a2.2.2.1 - 0)) else a3.2.2.1), a3.2.2.2))), true, ())).2.2.1, ()) else none))
  else
    (bif ((k24 ((a2.1, ((if (IntKind.wrap .u64 (a3.2.1 + 0)) > a2.2.1 then (IntKind.wrap .u64 (a3.2.1 + 0)) else a2.2.1), a2.2.2)), (a3.1, (a3.2.1, ((if (IntKind.wrap .u64 (a2.2.2.1 - 0)) < a3.2.2.1 then (IntKind.wrap .u64 (a2.2.2.1 - 0)) else a3.2.2.1), a3.2.2.2))), true, ())) && ((k22 (a3, ())) && ((k21 (48, ())) && ((k21 (48, ())) && (tt 1 (k12 (48, ()))))))) then some ((v24 ((a2.1, ((if (IntKind.wrap .u64 (a3.2.1 + 0)) > a2.2.1 then (IntKind.wrap .u64 (a3.2.1 + 0)) else a2.2.1), a2.2.2)), (a3.1, (a3.2.1, ((if (IntKind.wrap .u64 (a2.2.2.1 - 0)) < a3.2.2.1 then (IntKind.wrap .u64 (a2.2.2.1 - 0)) else a3.2.2.1), a3.2.2.2))), true, ())).1, (v24 ((a2.1, ((if (IntKind.wrap .u64 (a3.2.1 + 0)) > a2.2.1 then (IntKind.wrap .u64 (a3.2.1 + 0)) else a2.2.1), a2.2.2)), (a3.1, (a3.2.1, ((if (IntKind.wrap .u64 (a2.2.2.1 - 0)) < a3.2.2.1 then (IntKind.wrap .u64 (a2.2.2.1 - 0)) else a3.2.2.1), a3.2.2.2))), true, ())).2.1, (v24 ((a2.1, ((if (IntKind.wrap .u64 (a3.2.1 + 0)) > a2.2.1 then (IntKind.wrap .u64 (a3.2.1 + 0)) else a2.2.1), a2.2.2)), (a3.1, (a3.2.1, ((if (IntKind.wrap .u64 (a2.2.2.1 - 0)) < a3.2.2.1 then (IntKind.wrap .u64 (a2.2.2.1 - 0)) else a3.2.2.1), a3.2.2.2))), true, ())).2.2.1, ()) else none))
theorem t8_48 (k12 : (Int × Unit) → Bool) (k21 : (Int × Unit) → Bool) (v22 : (KD0 × Unit) → (Int × (Bool × Unit))) (k22 : (KD0 × Unit) → Bool) (v24 : (KD0 × KD0 × Bool × Unit) → KD7) (k24 : (KD0 × KD0 × Bool × Unit) → Bool) (a1 : Bool) (a2 : KD0) (a3 : KD0) : fnT (CxL Try.Θ (kOf [(12, sm [(.int .i64)] (.int .i64) (fun _ => 160) k12), (21, sm [(.int .i64)] (.int .i64) (fun _ => 48) k21), (22, sm [KT4] KT6 v22 k22), (24, sm [KT4, KT4, .bool] (.tup KT4 KT5) v24 k24)]) (lOf [])) Try.f8 (.tup KT4 KT5) [⟨(.int .i64), 48⟩, ⟨.bool, a1⟩, ⟨KT4, a2⟩, ⟨KT4, a3⟩] = S8_48 k12 k21 v22 k22 v24 k24 a1 a2 a3 := by kernel_rfl
noncomputable def S8_64 (k12 : (Int × Unit) → Bool) (k21 : (Int × Unit) → Bool) (v22 : (KD0 × Unit) → (Int × (Bool × Unit))) (k22 : (KD0 × Unit) → Bool) (v24 : (KD0 × KD0 × Bool × Unit) → KD7) (k24 : (KD0 × KD0 × Bool × Unit) → Bool) (a1 : Bool) (a2 : KD0) (a3 : KD0) : Option KD7 :=
  (bif (!a1) then
    (bif (!(decide ((ishr .u64 (ior .u64 a2.2.2.1 a3.2.2.1) 32) = 0))) then
      some (a2, a3, true, ())
    else
      (bif (v22 (a3, ())).2.1 then
        (bif (!(decide ((v22 (a3, ())).1 = 0))) then
          (bif (decide ((iand .u64 (v22 (a3, ())).1 (IntKind.wrap .u64 ((v22 (a3, ())).1 - 1))) = 0)) then
            (bif ((k24 ((((ior .u64 a2.1.1 (v22 (a3, ())).1), ((iandn .u64 a2.1.2.1 (v22 (a3, ())).1), ())), a2.2), a3, (!(decide ((iand .u64 (ior .u64 a2.1.1 a2.1.2.1) (ior .u64 a3.1.1 a3.1.2.1)) = 0))), ())) && ((k22 (a3, ())) && ((k21 (64, ())) && ((k21 (64, ())) && (tt 1 (k12 (64, ()))))))) then some ((v24 ((((ior .u64 a2.1.1 (v22 (a3, ())).1), ((iandn .u64 a2.1.2.1 (v22 (a3, ())).1), ())), a2.2), a3, (!(decide ((iand .u64 (ior .u64 a2.1.1 a2.1.2.1) (ior .u64 a3.1.1 a3.1.2.1)) = 0))), ())).1, (v24 ((((ior .u64 a2.1.1 (v22 (a3, ())).1), ((iandn .u64 a2.1.2.1 (v22 (a3, ())).1), ())), a2.2), a3, (!(decide ((iand .u64 (ior .u64 a2.1.1 a2.1.2.1) (ior .u64 a3.1.1 a3.1.2.1)) = 0))), ())).2.1, (v24 ((((ior .u64 a2.1.1 (v22 (a3, ())).1), ((iandn .u64 a2.1.2.1 (v22 (a3, ())).1), ())), a2.2), a3, (!(decide ((iand .u64 (ior .u64 a2.1.1 a2.1.2.1) (ior .u64 a3.1.1 a3.1.2.1)) = 0))), ())).2.2.1, ()) else none)
          else
            (bif ((k24 (a2, a3, (!(decide ((iand .u64 (ior .u64 a2.1.1 a2.1.2.1) (ior .u64 a3.1.1 a3.1.2.1)) = 0))), ())) && ((k22 (a3, ())) && ((k21 (64, ())) && ((k21 (64, ())) && (tt 1 (k12 (64, ()))))))) then some ((v24 (a2, a3, (!(decide ((iand .u64 (ior .u64 a2.1.1 a2.1.2.1) (ior .u64 a3.1.1 a3.1.2.1)) = 0))), ())).1, (v24 (a2, a3, (!(decide ((iand .u64 (ior .u64 a2.1.1 a2.1.2.1) (ior .u64 a3.1.1 a3.1.2.1)) = 0))), ())).2.1, (v24 (a2, a3, (!(decide ((iand .u64 (ior .u64 a2.1.1 a2.1.2.1) (ior .u64 a3.1.1 a3.1.2.1)) = 0))), ())).2.2.1, ()) else none))
        else
          (bif ((k24 (a2, a3, (!(decide ((iand .u64 (ior .u64 a2.1.1 a2.1.2.1) (ior .u64 a3.1.1 a3.1.2.1)) = 0))), ())) && ((k22 (a3, ())) && ((k21 (64, ())) && ((k21 (64, ())) && (tt 1 (k12 (64, ()))))))) then some ((v24 (a2, a3, (!(decide ((iand .u64 (ior .u64 a2.1.1 a2.1.2.1) (ior .u64 a3.1.1 a3.1.2.1)) = 0))), ())).1, (v24 (a2, a3, (!(decide ((iand .u64 (ior .u64 a2.1.1 a2.1.2.1) (ior .u64 a3.1.1 a3.1.2.1)) = 0))), ())).2.1, (v24 (a2, a3, (!(decide ((iand .u64 (ior .u64 a2.1.1 a2.1.2.1) (ior .u64 a3.1.1 a3.1.2.1)) = 0))), ())).2.2.1, ()) else none))
      else
        (bif ((k24 (a2, a3, (!(decide ((iand .u64 (ior .u64 a2.1.1 a2.1.2.1) (ior .u64 a3.1.1 a3.1.2.1)) = 0))), ())) && ((k22 (a3, ())) && ((k21 (64, ())) && ((k21 (64, ())) && (tt 1 (k12 (64, ()))))))) then some ((v24 (a2, a3, (!(decide ((iand .u64 (ior .u64 a2.1.1 a2.1.2.1) (ior .u64 a3.1.1 a3.1.2.1)) = 0))), ())).1, (v24 (a2, a3, (!(decide ((iand .u64 (ior .u64 a2.1.1 a2.1.2.1) (ior .u64 a3.1.1 a3.1.2.1)) = 0))), ())).2.1, (v24 (a2, a3, (!(decide ((iand .u64 (ior .u64 a2.1.1 a2.1.2.1) (ior .u64 a3.1.1 a3.1.2.1)) = 0))), ())).2.2.1, ()) else none)))
  else
    (bif (v22 (a3, ())).2.1 then
      (bif (!(decide ((v22 (a3, ())).1 = 0))) then
        (bif (decide ((iand .u64 (v22 (a3, ())).1 (IntKind.wrap .u64 ((v22 (a3, ())).1 - 1))) = 0)) then
          (bif ((k24 ((((ior .u64 a2.1.1 (v22 (a3, ())).1), ((iandn .u64 a2.1.2.1 (v22 (a3, ())).1), ())), a2.2), a3, (!(decide ((iand .u64 (ior .u64 a2.1.1 a2.1.2.1) (ior .u64 a3.1.1 a3.1.2.1)) = 0))), ())) && ((k22 (a3, ())) && ((k21 (64, ())) && ((k21 (64, ())) && (tt 1 (k12 (64, ()))))))) then some ((v24 ((((ior .u64 a2.1.1 (v22 (a3, ())).1), ((iandn .u64 a2.1.2.1 (v22 (a3, ())).1), ())), a2.2), a3, (!(decide ((iand .u64 (ior .u64 a2.1.1 a2.1.2.1) (ior .u64 a3.1.1 a3.1.2.1)) = 0))), ())).1, (v24 ((((ior .u64 a2.1.1 (v22 (a3, ())).1), ((iandn .u64 a2.1.2.1 (v22 (a3, ())).1), ())), a2.2), a3, (!(decide ((iand .u64 (ior .u64 a2.1.1 a2.1.2.1) (ior .u64 a3.1.1 a3.1.2.1)) = 0))), ())).2.1, (v24 ((((ior .u64 a2.1.1 (v22 (a3, ())).1), ((iandn .u64 a2.1.2.1 (v22 (a3, ())).1), ())), a2.2), a3, (!(decide ((iand .u64 (ior .u64 a2.1.1 a2.1.2.1) (ior .u64 a3.1.1 a3.1.2.1)) = 0))), ())).2.2.1, ()) else none)
        else
          (bif ((k24 (a2, a3, (!(decide ((iand .u64 (ior .u64 a2.1.1 a2.1.2.1) (ior .u64 a3.1.1 a3.1.2.1)) = 0))), ())) && ((k22 (a3, ())) && ((k21 (64, ())) && ((k21 (64, ())) && (tt 1 (k12 (64, ()))))))) then some ((v24 (a2, a3, (!(decide ((iand .u64 (ior .u64 a2.1.1 a2.1.2.1) (ior .u64 a3.1.1 a3.1.2.1)) = 0))), ())).1, (v24 (a2, a3, (!(decide ((iand .u64 (ior .u64 a2.1.1 a2.1.2.1) (ior .u64 a3.1.1 a3.1.2.1)) = 0))), ())).2.1, (v24 (a2, a3, (!(decide ((iand .u64 (ior .u64 a2.1.1 a2.1.2.1) (ior .u64 a3.1.1 a3.1.2.1)) = 0))), ())).2.2.1, ()) else none))
      else
        (bif ((k24 (a2, a3, (!(decide ((iand .u64 (ior .u64 a2.1.1 a2.1.2.1) (ior .u64 a3.1.1 a3.1.2.1)) = 0))), ())) && ((k22 (a3, ())) && ((k21 (64, ())) && ((k21 (64, ())) && (tt 1 (k12 (64, ()))))))) then some ((v24 (a2, a3, (!(decide ((iand .u64 (ior .u64 a2.1.1 a2.1.2.1) (ior .u64 a3.1.1 a3.1.2.1)) = 0))), ())).1, (v24 (a2, a3, (!(decide ((iand .u64 (ior .u64 a2.1.1 a2.1.2.1) (ior .u64 a3.1.1 a3.1.2.1)) = 0))), ())).2.1, (v24 (a2, a3, (!(decide ((iand .u64 (ior .u64 a2.1.1 a2.1.2.1) (ior .u64 a3.1.1 a3.1.2.1)) = 0))), ())).2.2.1, ()) else none))
    else
      (bif ((k24 (a2, a3, (!(decide ((iand .u64 (ior .u64 a2.1.1 a2.1.2.1) (ior .u64 a3.1.1 a3.1.2.1)) = 0))), ())) && ((k22 (a3, ())) && ((k21 (64, ())) && ((k21 (64, ())) && (tt 1 (k12 (64, ()))))))) then some ((v24 (a2, a3, (!(decide ((iand .u64 (ior .u64 a2.1.1 a2.1.2.1) (ior .u64 a3.1.1 a3.1.2.1)) = 0))), ())).1, (v24 (a2, a3, (!(decide ((iand .u64 (ior .u64 a2.1.1 a2.1.2.1) (ior .u64 a3.1.1 a3.1.2.1)) = 0))), ())).2.1, (v24 (a2, a3, (!(decide ((iand .u64 (ior .u64 a2.1.1 a2.1.2.1) (ior .u64 a3.1.1 a3.1.2.1)) = 0))), ())).2.2.1, ()) else none)))
theorem t8_64 (k12 : (Int × Unit) → Bool) (k21 : (Int × Unit) → Bool) (v22 : (KD0 × Unit) → (Int × (Bool × Unit))) (k22 : (KD0 × Unit) → Bool) (v24 : (KD0 × KD0 × Bool × Unit) → KD7) (k24 : (KD0 × KD0 × Bool × Unit) → Bool) (a1 : Bool) (a2 : KD0) (a3 : KD0) : fnT (CxL Try.Θ (kOf [(12, sm [(.int .i64)] (.int .i64) (fun _ => 68) k12), (21, sm [(.int .i64)] (.int .i64) (fun _ => 64) k21), (22, sm [KT4] KT6 v22 k22), (24, sm [KT4, KT4, .bool] (.tup KT4 KT5) v24 k24)]) (lOf [])) Try.f8 (.tup KT4 KT5) [⟨(.int .i64), 64⟩, ⟨.bool, a1⟩, ⟨KT4, a2⟩, ⟨KT4, a3⟩] = S8_64 k12 k21 v22 k22 v24 k24 a1 a2 a3 := by kernel_rfl
noncomputable def S8_68 (k12 : (Int × Unit) → Bool) (k21 : (Int × Unit) → Bool) (v22 : (KD0 × Unit) → (Int × (Bool × Unit))) (k22 : (KD0 × Unit) → Bool) (v24 : (KD0 × KD0 × Bool × Unit) → KD7) (k24 : (KD0 × KD0 × Bool × Unit) → Bool) (a1 : Bool) (a2 : KD0) (a3 : KD0) : Option KD7 :=
  (bif (!a1) then
    (bif (!(decide ((ishr .u64 (ior .u64 a2.2.2.1 a3.2.2.1) 32) = 0))) then
      some (a2, a3, true, ())
    else
      (bif (v22 (a3, ())).2.1 then
        (bif ((k24 (((a2.1.1, ((iandn .u64 a2.1.2.1 (v22 (a3, ())).1), a2.1.2.2)), a2.2), a3, (decide ((iand .u64 a2.1.1 a3.1.1) = 0)), ())) && ((k22 (a3, ())) && ((k21 (68, ())) && ((k21 (68, ())) && (tt 1 (k12 (68, ()))))))) then some ((v24 (((a2.1.1, ((iandn .u64 a2.1.2.1 (v22 (a3, ())).1), a2.1.2.2)), a2.2), a3, (decide ((iand .u64 a2.1.1 a3.1.1) = 0)), ())).1, (v24 (((a2.1.1, ((iandn .u64 a2.1.2.1 (v22 (a3, ())).1), a2.1.2.2)), a2.2), a3, (decide ((iand .u64 a2.1.1 a3.1.1) = 0)), ())).2.1, (v24 (((a2.1.1, ((iandn .u64 a2.1.2.1 (v22 (a3, ())).1), a2.1.2.2)), a2.2), a3, (decide ((iand .u64 a2.1.1 a3.1.1) = 0)), ())).2.2.1, ()) else none)
      else
        (bif ((k24 (a2, a3, (decide ((iand .u64 a2.1.1 a3.1.1) = 0)), ())) && ((k22 (a3, ())) && ((k21 (68, ())) && ((k21 (68, ())) && (tt 1 (k12 (68, ()))))))) then some ((v24 (a2, a3, (decide ((iand .u64 a2.1.1 a3.1.1) = 0)), ())).1, (v24 (a2, a3, (decide ((iand .u64 a2.1.1 a3.1.1) = 0)), ())).2.1, (v24 (a2, a3, (decide ((iand .u64 a2.1.1 a3.1.1) = 0)), ())).2.2.1, ()) else none)))
  else
    (bif (v22 (a3, ())).2.1 then
      (bif ((k24 (((a2.1.1, ((iandn .u64 a2.1.2.1 (v22 (a3, ())).1), a2.1.2.2)), a2.2), a3, (decide ((iand .u64 a2.1.1 a3.1.1) = 0)), ())) && ((k22 (a3, ())) && ((k21 (68, ())) && ((k21 (68, ())) && (tt 1 (k12 (68, ()))))))) then some ((v24 (((a2.1.1, ((iandn .u64 a2.1.2.1 (v22 (a3, ())).1), a2.1.2.2)), a2.2), a3, (decide ((iand .u64 a2.1.1 a3.1.1) = 0)), ())).1, (v24 (((a2.1.1, ((iandn .u64 a2.1.2.1 (v22 (a3, ())).1), a2.1.2.2)), a2.2), a3, (decide ((iand .u64 a2.1.1 a3.1.1) = 0)), ())).2.1, (v24 (((a2.1.1, ((iandn .u64 a2.1.2.1 (v22 (a3, ())).1), a2.1.2.2)), a2.2), a3, (decide ((iand .u64 a2.1.1 a3.1.1) = 0)), ())).2.2.1, ()) else none)
    else
      (bif ((k24 (a2, a3, (decide ((iand .u64 a2.1.1 a3.1.1) = 0)), ())) && ((k22 (a3, ())) && ((k21 (68, ())) && ((k21 (68, ())) && (tt 1 (k12 (68, ()))))))) then some ((v24 (a2, a3, (decide ((iand .u64 a2.1.1 a3.1.1) = 0)), ())).1, (v24 (a2, a3, (decide ((iand .u64 a2.1.1 a3.1.1) = 0)), ())).2.1, (v24 (a2, a3, (decide ((iand .u64 a2.1.1 a3.1.1) = 0)), ())).2.2.1, ()) else none)))
theorem t8_68 (k12 : (Int × Unit) → Bool) (k21 : (Int × Unit) → Bool) (v22 : (KD0 × Unit) → (Int × (Bool × Unit))) (k22 : (KD0 × Unit) → Bool) (v24 : (KD0 × KD0 × Bool × Unit) → KD7) (k24 : (KD0 × KD0 × Bool × Unit) → Bool) (a1 : Bool) (a2 : KD0) (a3 : KD0) : fnT (CxL Try.Θ (kOf [(12, sm [(.int .i64)] (.int .i64) (fun _ => 64) k12), (21, sm [(.int .i64)] (.int .i64) (fun _ => 68) k21), (22, sm [KT4] KT6 v22 k22), (24, sm [KT4, KT4, .bool] (.tup KT4 KT5) v24 k24)]) (lOf [])) Try.f8 (.tup KT4 KT5) [⟨(.int .i64), 68⟩, ⟨.bool, a1⟩, ⟨KT4, a2⟩, ⟨KT4, a3⟩] = S8_68 k12 k21 v22 k22 v24 k24 a1 a2 a3 := by kernel_rfl
noncomputable def S8_80 (k12 : (Int × Unit) → Bool) (k21 : (Int × Unit) → Bool) (v22 : (KD0 × Unit) → (Int × (Bool × Unit))) (k22 : (KD0 × Unit) → Bool) (v25 : (KD0 × KD0 × Unit) → KD7) (k25 : (KD0 × KD0 × Unit) → Bool) (a1 : Bool) (a2 : KD0) (a3 : KD0) : Option KD7 :=
  (bif (!a1) then
    (bif (!(decide ((ishr .u64 (ior .u64 a2.2.2.1 a3.2.2.1) 32) = 0))) then
      some (a2, a3, true, ())
    else
      (bif ((k25 (a2, a3, ())) && ((k22 (a3, ())) && ((k21 (80, ())) && ((k21 (80, ())) && (tt 1 (k12 (80, ()))))))) then some ((v25 (a2, a3, ())).1, (v25 (a2, a3, ())).2.1, (v25 (a2, a3, ())).2.2.1, ()) else none))
  else
    (bif ((k25 (a2, a3, ())) && ((k22 (a3, ())) && ((k21 (80, ())) && ((k21 (80, ())) && (tt 1 (k12 (80, ()))))))) then some ((v25 (a2, a3, ())).1, (v25 (a2, a3, ())).2.1, (v25 (a2, a3, ())).2.2.1, ()) else none))
theorem t8_80 (k12 : (Int × Unit) → Bool) (k21 : (Int × Unit) → Bool) (v22 : (KD0 × Unit) → (Int × (Bool × Unit))) (k22 : (KD0 × Unit) → Bool) (v25 : (KD0 × KD0 × Unit) → KD7) (k25 : (KD0 × KD0 × Unit) → Bool) (a1 : Bool) (a2 : KD0) (a3 : KD0) : fnT (CxL Try.Θ (kOf [(12, sm [(.int .i64)] (.int .i64) (fun _ => 16) k12), (21, sm [(.int .i64)] (.int .i64) (fun _ => 80) k21), (22, sm [KT4] KT6 v22 k22), (25, sm [KT4, KT4] (.tup KT4 KT5) v25 k25)]) (lOf [])) Try.f8 (.tup KT4 KT5) [⟨(.int .i64), 80⟩, ⟨.bool, a1⟩, ⟨KT4, a2⟩, ⟨KT4, a3⟩] = S8_80 k12 k21 v22 k22 v25 k25 a1 a2 a3 := by kernel_rfl
noncomputable def S8_96 (k12 : (Int × Unit) → Bool) (k21 : (Int × Unit) → Bool) (v22 : (KD0 × Unit) → (Int × (Bool × Unit))) (k22 : (KD0 × Unit) → Bool) (v24 : (KD0 × KD0 × Bool × Unit) → KD7) (k24 : (KD0 × KD0 × Bool × Unit) → Bool) (a1 : Bool) (a2 : KD0) (a3 : KD0) : Option KD7 :=
  (bif (!a1) then
    (bif (!(decide ((ishr .u64 (ior .u64 a2.2.2.1 a3.2.2.1) 32) = 0))) then
      some (a2, a3, true, ())
    else
      (bif (decide (a2.2.2.1 ≥ 2147483648)) then
        (bif ((k21 (96, ())) && (tt 1 (k12 (96, ())))) then some (a2, a3, true, ()) else none)
      else
        (bif (decide (a3.2.2.1 ≥ 2147483648)) then
          (bif ((k21 (96, ())) && (tt 1 (k12 (96, ())))) then some (a2, a3, true, ()) else none)
        else
          (bif (!(decide (a3.2.1 = 18446744073709551615))) then
            (bif (!(decide (a2.2.2.1 = 0))) then
              (bif ((k24 ((a2.1, ((if (IntKind.wrap .u64 (a3.2.1 + 1)) > a2.2.1 then (IntKind.wrap .u64 (a3.2.1 + 1)) else a2.2.1), a2.2.2)), (a3.1, (a3.2.1, ((if (IntKind.wrap .u64 (a2.2.2.1 - 1)) < a3.2.2.1 then (IntKind.wrap .u64 (a2.2.2.1 - 1)) else a3.2.2.1), a3.2.2.2))), (!(decide (a2.2.2.1 = 0))), ())) && ((k22 (a3, ())) && ((k21 (96, ())) && ((k21 (96, ())) && (tt 1 (k12 (96, ()))))))) then some ((v24 ((a2.1, ((if (IntKind.wrap .u64 (a3.2.1 + 1)) > a2.2.1 then (IntKind.wrap .u64 (a3.2.1 + 1)) else a2.2.1), a2.2.2)), (a3.1, (a3.2.1, ((if (IntKind.wrap .u64 (a2.2.2.1 - 1)) < a3.2.2.1 then (IntKind.wrap .u64 (a2.2.2.1 - 1)) else a3.2.2.1), a3.2.2.2))), (!(decide (a2.2.2.1 = 0))), ())).1, (v24 ((a2.1, ((if (IntKind.wrap .u64 (a3.2.1 + 1)) > a2.2.1 then (IntKind.wrap .u64 (a3.2.1 + 1)) else a2.2.1), a2.2.2)), (a3.1, (a3.2.1, ((if (IntKind.wrap .u64 (a2.2.2.1 - 1)) < a3.2.2.1 then (IntKind.wrap .u64 (a2.2.2.1 - 1)) else a3.2.2.1), a3.2.2.2))), (!(decide (a2.2.2.1 = 0))), ())).2.1, (v24 ((a2.1, ((if (IntKind.wrap .u64 (a3.2.1 + 1)) > a2.2.1 then (IntKind.wrap .u64 (a3.2.1 + 1)) else a2.2.1), a2.2.2)), (a3.1, (a3.2.1, ((if (IntKind.wrap .u64 (a2.2.2.1 - 1)) < a3.2.2.1 then (IntKind.wrap .u64 (a2.2.2.1 - 1)) else a3.2.2.1), a3.2.2.2))), (!(decide (a2.2.2.1 = 0))), ())).2.2.1, ()) else none)
            else
              (bif ((k24 (a2, a3, (!(decide (a2.2.2.1 = 0))), ())) && ((k22 (a3, ())) && ((k21 (96, ())) && ((k21 (96, ())) && (tt 1 (k12 (96, ()))))))) then some ((v24 (a2, a3, (!(decide (a2.2.2.1 = 0))), ())).1, (v24 (a2, a3, (!(decide (a2.2.2.1 = 0))), ())).2.1, (v24 (a2, a3, (!(decide (a2.2.2.1 = 0))), ())).2.2.1, ()) else none))
          else
            (bif ((k24 (a2, a3, false, ())) && ((k22 (a3, ())) && ((k21 (96, ())) && ((k21 (96, ())) && (tt 1 (k12 (96, ()))))))) then some ((v24 (a2, a3, false, ())).1, (v24 (a2, a3, false, ())).2.1, (v24 (a2, a3, false, ())).2.2.1, ()) else none)))))
  else
    (bif (decide (a2.2.2.1 ≥ 9223372036854775808)) then
      (bif ((k21 (96, ())) && (tt 1 (k12 (96, ())))) then some (a2, a3, true, ()) else none)
    else
      (bif (decide (a3.2.2.1 ≥ 9223372036854775808)) then
        (bif ((k21 (96, ())) && (tt 1 (k12 (96, ())))) then some (a2, a3, true, ()) else none)
      else
        (bif (!(decide (a3.2.1 = 18446744073709551615))) then
          (bif (!(decide (a2.2.2.1 = 0))) then
            (bif ((k24 ((a2.1, ((if (IntKind.wrap .u64 (a3.2.1 + 1)) > a2.2.1 then (IntKind.wrap .u64 (a3.2.1 + 1)) else a2.2.1), a2.2.2)), (a3.1, (a3.2.1, ((if (IntKind.wrap .u64 (a2.2.2.1 - 1)) < a3.2.2.1 then (IntKind.wrap .u64 (a2.2.2.1 - 1)) else a3.2.2.1), a3.2.2.2))), (!(decide (a2.2.2.1 = 0))), ())) && ((k22 (a3, ())) && ((k21 (96, ())) && ((k21 (96, ())) && (tt 1 (k12 (96, ()))))))) then some ((v24 ((a2.1, ((if (IntKind.wrap .u64 (a3.2.1 + 1)) > a2.2.1 then (IntKind.wrap .u64 (a3.2.1 + 1)) else a2.2.1), a2.2.2)), (a3.1, (a3.2.1, ((if (IntKind.wrap .u64 (a2.2.2.1 - 1)) < a3.2.2.1 then (IntKind.wrap .u64 (a2.2.2.1 - 1)) else a3.2.2.1), a3.2.2.2))), (!(decide (a2.2.2.1 = 0))), ())).1, (v24 ((a2.1, ((if (IntKind.wrap .u64 (a3.2.1 + 1)) > a2.2.1 then (IntKind.wrap .u64 (a3.2.1 + 1)) else a2.2.1), a2.2.2)), (a3.1, (a3.2.1, ((if (IntKind.wrap .u64 (a2.2.2.1 - 1)) < a3.2.2.1 then (IntKind.wrap .u64 (a2.2.2.1 - 1)) else a3.2.2.1), a3.2.2.2))), (!(decide (a2.2.2.1 = 0))), ())).2.1, (v24 ((a2.1, ((if (IntKind.wrap .u64 (a3.2.1 + 1)) > a2.2.1 then (IntKind.wrap .u64 (a3.2.1 + 1)) else a2.2.1), a2.2.2)), (a3.1, (a3.2.1, ((if (IntKind.wrap .u64 (a2.2.2.1 - 1)) < a3.2.2.1 then (IntKind.wrap .u64 (a2.2.2.1 - 1)) else a3.2.2.1), a3.2.2.2))), (!(decide (a2.2.2.1 = 0))), ())).2.2.1, ()) else none)
          else
            (bif ((k24 (a2, a3, (!(decide (a2.2.2.1 = 0))), ())) && ((k22 (a3, ())) && ((k21 (96, ())) && ((k21 (96, ())) && (tt 1 (k12 (96, ()))))))) then some ((v24 (a2, a3, (!(decide (a2.2.2.1 = 0))), ())).1, (v24 (a2, a3, (!(decide (a2.2.2.1 = 0))), ())).2.1, (v24 (a2, a3, (!(decide (a2.2.2.1 = 0))), ())).2.2.1, ()) else none))
        else
          (bif ((k24 (a2, a3, false, ())) && ((k22 (a3, ())) && ((k21 (96, ())) && ((k21 (96, ())) && (tt 1 (k12 (96, ()))))))) then some ((v24 (a2, a3, false, ())).1, (v24 (a2, a3, false, ())).2.1, (v24 (a2, a3, false, ())).2.2.1, ()) else none)))))
theorem t8_96 (k12 : (Int × Unit) → Bool) (k21 : (Int × Unit) → Bool) (v22 : (KD0 × Unit) → (Int × (Bool × Unit))) (k22 : (KD0 × Unit) → Bool) (v24 : (KD0 × KD0 × Bool × Unit) → KD7) (k24 : (KD0 × KD0 × Bool × Unit) → Bool) (a1 : Bool) (a2 : KD0) (a3 : KD0) : fnT (CxL Try.Θ (kOf [(12, sm [(.int .i64)] (.int .i64) (fun _ => 208) k12), (21, sm [(.int .i64)] (.int .i64) (fun _ => 32) k21), (22, sm [KT4] KT6 v22 k22), (24, sm [KT4, KT4, .bool] (.tup KT4 KT5) v24 k24)]) (lOf [])) Try.f8 (.tup KT4 KT5) [⟨(.int .i64), 96⟩, ⟨.bool, a1⟩, ⟨KT4, a2⟩, ⟨KT4, a3⟩] = S8_96 k12 k21 v22 k22 v24 k24 a1 a2 a3 := by kernel_rfl
noncomputable def S8_112 (k12 : (Int × Unit) → Bool) (k21 : (Int × Unit) → Bool) (v22 : (KD0 × Unit) → (Int × (Bool × Unit))) (k22 : (KD0 × Unit) → Bool) (v24 : (KD0 × KD0 × Bool × Unit) → KD7) (k24 : (KD0 × KD0 × Bool × Unit) → Bool) (a1 : Bool) (a2 : KD0) (a3 : KD0) : Option KD7 :=
  (bif (!a1) then
    (bif (!(decide ((ishr .u64 (ior .u64 a2.2.2.1 a3.2.2.1) 32) = 0))) then
      some (a2, a3, true, ())
    else
      (bif (decide (a2.2.2.1 ≥ 2147483648)) then
        (bif ((k21 (112, ())) && (tt 1 (k12 (112, ())))) then some (a2, a3, true, ()) else none)
      else
        (bif (decide (a3.2.2.1 ≥ 2147483648)) then
          (bif ((k21 (112, ())) && (tt 1 (k12 (112, ())))) then some (a2, a3, true, ()) else none)
        else
          (bif ((k24 ((a2.1, ((if (IntKind.wrap .u64 (a3.2.1 + 0)) > a2.2.1 then (IntKind.wrap .u64 (a3.2.1 + 0)) else a2.2.1), a2.2.2)), (a3.1, (a3.2.1, ((if (IntKind.wrap .u64 (a2.2.2.1 - 0)) < a3.2.2.1 then (IntKind.wrap .u64 (a2.2.2.1 - 0)) else a3.2.2.1), a3.2.2.2))), true, ())) && ((k22 (a3, ())) && ((k21 (112, ())) && ((k21 (112, ())) && (tt 1 (k12 (112, ()))))))) then some ((v24 ((a2.1, ((if (IntKind.wrap .u64 (a3.2.1 + 0)) > a2.2.1 then (IntKind.wrap .u64 (a3.2.1 + 0)) else a2.2.1), a2.2.2)), (a3.1, (a3.2.1, ((if (IntKind.wrap .u64 (a2.2.2.1 - 0)) < a3.2.2.1 then (IntKind.wrap .u64 (a2.2.2.1 - 0)) else a3.2.2.1), a3.2.2.2))), true, ())).1, (v24 ((a2.1, ((if (IntKind.wrap .u64 (a3.2.1 + 0)) > a2.2.1 then (IntKind.wrap .u64 (a3.2.1 + 0)) else a2.2.1), a2.2.2)), (a3.1, (a3.2.1, ((if (IntKind.wrap .u64 (a2.2.2.1 - 0)) < a3.2.2.1 then (IntKind.wrap .u64 (a2.2.2.1 - 0)) else a3.2.2.1), a3.2.2.2))), true, ())).2.1, (v24 ((a2.1, ((if (IntKind.wrap .u64 (a3.2.1 + 0)) > a2.2.1 then (IntKind.wrap .u64 (a3.2.1 + 0)) else a2.2.1), a2.2.2)), (a3.1, (a3.2.1, ((if (IntKind.wrap .u64 (a2.2.2.1 - 0)) < a3.2.2.1 then (IntKind.wrap .u64 (a2.2.2.1 - 0)) else a3.2.2.1), a3.2.2.2))), true, ())).2.2.1, ()) else none))))
  else
    (bif (decide (a2.2.2.1 ≥ 9223372036854775808)) then
      (bif ((k21 (112, ())) && (tt 1 (k12 (112, ())))) then some (a2, a3, true, ()) else none)
    else
      (bif (decide (a3.2.2.1 ≥ 9223372036854775808)) then
        (bif ((k21 (112, ())) && (tt 1 (k12 (112, ())))) then some (a2, a3, true, ()) else none)
      else
        (bif ((k24 ((a2.1, ((if (IntKind.wrap .u64 (a3.2.1 + 0)) > a2.2.1 then (IntKind.wrap .u64 (a3.2.1 + 0)) else a2.2.1), a2.2.2)), (a3.1, (a3.2.1, ((if (IntKind.wrap .u64 (a2.2.2.1 - 0)) < a3.2.2.1 then (IntKind.wrap .u64 (a2.2.2.1 - 0)) else a3.2.2.1), a3.2.2.2))), true, ())) && ((k22 (a3, ())) && ((k21 (112, ())) && ((k21 (112, ())) && (tt 1 (k12 (112, ()))))))) then some ((v24 ((a2.1, ((if (IntKind.wrap .u64 (a3.2.1 + 0)) > a2.2.1 then (IntKind.wrap .u64 (a3.2.1 + 0)) else a2.2.1), a2.2.2)), (a3.1, (a3.2.1, ((if (IntKind.wrap .u64 (a2.2.2.1 - 0)) < a3.2.2.1 then (IntKind.wrap .u64 (a2.2.2.1 - 0)) else a3.2.2.1), a3.2.2.2))), true, ())).1, (v24 ((a2.1, ((if (IntKind.wrap .u64 (a3.2.1 + 0)) > a2.2.1 then (IntKind.wrap .u64 (a3.2.1 + 0)) else a2.2.1), a2.2.2)), (a3.1, (a3.2.1, ((if (IntKind.wrap .u64 (a2.2.2.1 - 0)) < a3.2.2.1 then (IntKind.wrap .u64 (a2.2.2.1 - 0)) else a3.2.2.1), a3.2.2.2))), true, ())).2.1, (v24 ((a2.1, ((if (IntKind.wrap .u64 (a3.2.1 + 0)) > a2.2.1 then (IntKind.wrap .u64 (a3.2.1 + 0)) else a2.2.1), a2.2.2)), (a3.1, (a3.2.1, ((if (IntKind.wrap .u64 (a2.2.2.1 - 0)) < a3.2.2.1 then (IntKind.wrap .u64 (a2.2.2.1 - 0)) else a3.2.2.1), a3.2.2.2))), true, ())).2.2.1, ()) else none))))
theorem t8_112 (k12 : (Int × Unit) → Bool) (k21 : (Int × Unit) → Bool) (v22 : (KD0 × Unit) → (Int × (Bool × Unit))) (k22 : (KD0 × Unit) → Bool) (v24 : (KD0 × KD0 × Bool × Unit) → KD7) (k24 : (KD0 × KD0 × Bool × Unit) → Bool) (a1 : Bool) (a2 : KD0) (a3 : KD0) : fnT (CxL Try.Θ (kOf [(12, sm [(.int .i64)] (.int .i64) (fun _ => 192) k12), (21, sm [(.int .i64)] (.int .i64) (fun _ => 48) k21), (22, sm [KT4] KT6 v22 k22), (24, sm [KT4, KT4, .bool] (.tup KT4 KT5) v24 k24)]) (lOf [])) Try.f8 (.tup KT4 KT5) [⟨(.int .i64), 112⟩, ⟨.bool, a1⟩, ⟨KT4, a2⟩, ⟨KT4, a3⟩] = S8_112 k12 k21 v22 k22 v24 k24 a1 a2 a3 := by kernel_rfl
noncomputable def S8_160 (k12 : (Int × Unit) → Bool) (k21 : (Int × Unit) → Bool) (v22 : (KD0 × Unit) → (Int × (Bool × Unit))) (k22 : (KD0 × Unit) → Bool) (v24 : (KD0 × KD0 × Bool × Unit) → KD7) (k24 : (KD0 × KD0 × Bool × Unit) → Bool) (a1 : Bool) (a2 : KD0) (a3 : KD0) : Option KD7 :=
  (bif (!a1) then
    (bif (!(decide ((ishr .u64 (ior .u64 a2.2.2.1 a3.2.2.1) 32) = 0))) then
      some (a2, a3, true, ())
    else
      (bif (!(decide (a2.2.1 = 18446744073709551615))) then
        (bif (!(decide (a3.2.2.1 = 0))) then
          (bif ((k24 ((a2.1, (a2.2.1, ((if (IntKind.wrap .u64 (a3.2.2.1 - 1)) < a2.2.2.1 then (IntKind.wrap .u64 (a3.2.2.1 - 1)) else a2.2.2.1), a2.2.2.2))), (a3.1, ((if (IntKind.wrap .u64 (a2.2.1 + 1)) > a3.2.1 then (IntKind.wrap .u64 (a2.2.1 + 1)) else a3.2.1), a3.2.2)), (!(decide (a3.2.2.1 = 0))), ())) && ((k22 (a2, ())) && ((k22 (a3, ())) && ((k21 (160, ())) && ((k21 (160, ())) && (tt 1 (k12 (160, ())))))))) then some ((v24 ((a2.1, (a2.2.1, ((if (IntKind.wrap .u64 (a3.2.2.1 - 1)) < a2.2.2.1 then (IntKind.wrap .u64 (a3.2.2.1 - 1)) else a2.2.2.1), a2.2.2.2))), (a3.1, ((if (IntKind.wrap .u64 (a2.2.1 + 1)) > a3.2.1 then (IntKind.wrap .u64 (a2.2.1 + 1)) else a3.2.1), a3.2.2)), (!(decide (a3.2.2.1 = 0))), ())).1, (v24 ((a2.1, (a2.2.1, ((if (IntKind.wrap .u64 (a3.2.2.1 - 1)) < a2.2.2.1 then (IntKind.wrap .u64 (a3.2.2.1 - 1)) else a2.2.2.1), a2.2.2.2))), (a3.1, ((if (IntKind.wrap .u64 (a2.2.1 + 1)) > a3.2.1 then (IntKind.wrap .u64 (a2.2.1 + 1)) else a3.2.1), a3.2.2)), (!(decide (a3.2.2.1 = 0))), ())).2.1, (v24 ((a2.1, (a2.2.1, ((if (IntKind.wrap .u64 (a3.2.2.1 - 1)) < a2.2.2.1 then (IntKind.wrap .u64 (a3.2.2.1 - 1)) else a2.2.2.1), a2.2.2.2))), (a3.1, ((if (IntKind.wrap .u64 (a2.2.1 + 1)) > a3.2.1 then (IntKind.wrap .u64 (a2.2.1 + 1)) else a3.2.1), a3.2.2)), (!(decide (a3.2.2.1 = 0))), ())).2.2.1, ()) else none)
        else
          (bif ((k24 (a2, a3, (!(decide (a3.2.2.1 = 0))), ())) && ((k22 (a2, ())) && ((k22 (a3, ())) && ((k21 (160, ())) && ((k21 (160, ())) && (tt 1 (k12 (160, ())))))))) then some ((v24 (a2, a3, (!(decide (a3.2.2.1 = 0))), ())).1, (v24 (a2, a3, (!(decide (a3.2.2.1 = 0))), ())).2.1, (v24 (a2, a3, (!(decide (a3.2.2.1 = 0))), ())).2.2.1, ()) else none))
      else
        (bif ((k24 (a2, a3, false, ())) && ((k22 (a2, ())) && ((k22 (a3, ())) && ((k21 (160, ())) && ((k21 (160, ())) && (tt 1 (k12 (160, ())))))))) then some ((v24 (a2, a3, false, ())).1, (v24 (a2, a3, false, ())).2.1, (v24 (a2, a3, false, ())).2.2.1, ()) else none)))
  else
    (bif (!(decide (a2.2.1 = 18446744073709551615))) then
      (bif (!(decide (a3.2.2.1 = 0))) then
        (bif ((k24 ((a2.1, (a2.2.1, ((if (IntKind.wrap .u64 (a3.2.2.1 - 1)) < a2.2.2.1 then (IntKind.wrap .u64 (a3.2.2.1 - 1)) else a2.2.2.1), a2.2.2.2))), (a3.1, ((if (IntKind.wrap .u64 (a2.2.1 + 1)) > a3.2.1 then (IntKind.wrap .u64 (a2.2.1 + 1)) else a3.2.1), a3.2.2)), (!(decide (a3.2.2.1 = 0))), ())) && ((k22 (a2, ())) && ((k22 (a3, ())) && ((k21 (160, ())) && ((k21 (160, ())) && (tt 1 (k12 (160, ())))))))) then some ((v24 ((a2.1, (a2.2.1, ((if (IntKind.wrap .u64 (a3.2.2.1 - 1)) < a2.2.2.1 then (IntKind.wrap .u64 (a3.2.2.1 - 1)) else a2.2.2.1), a2.2.2.2))), (a3.1, ((if (IntKind.wrap .u64 (a2.2.1 + 1)) > a3.2.1 then (IntKind.wrap .u64 (a2.2.1 + 1)) else a3.2.1), a3.2.2)), (!(decide (a3.2.2.1 = 0))), ())).1, (v24 ((a2.1, (a2.2.1, ((if (IntKind.wrap .u64 (a3.2.2.1 - 1)) < a2.2.2.1 then (IntKind.wrap .u64 (a3.2.2.1 - 1)) else a2.2.2.1), a2.2.2.2))), (a3.1, ((if (IntKind.wrap .u64 (a2.2.1 + 1)) > a3.2.1 then (IntKind.wrap .u64 (a2.2.1 + 1)) else a3.2.1), a3.2.2)), (!(decide (a3.2.2.1 = 0))), ())).2.1, (v24 ((a2.1, (a2.2.1, ((if (IntKind.wrap .u64 (a3.2.2.1 - 1)) < a2.2.2.1 then (IntKind.wrap .u64 (a3.2.2.1 - 1)) else a2.2.2.1), a2.2.2.2))), (a3.1, ((if (IntKind.wrap .u64 (a2.2.1 + 1)) > a3.2.1 then (IntKind.wrap .u64 (a2.2.1 + 1)) else a3.2.1), a3.2.2)), (!(decide (a3.2.2.1 = 0))), ())).2.2.1, ()) else none)
      else
        (bif ((k24 (a2, a3, (!(decide (a3.2.2.1 = 0))), ())) && ((k22 (a2, ())) && ((k22 (a3, ())) && ((k21 (160, ())) && ((k21 (160, ())) && (tt 1 (k12 (160, ())))))))) then some ((v24 (a2, a3, (!(decide (a3.2.2.1 = 0))), ())).1, (v24 (a2, a3, (!(decide (a3.2.2.1 = 0))), ())).2.1, (v24 (a2, a3, (!(decide (a3.2.2.1 = 0))), ())).2.2.1, ()) else none))
    else
      (bif ((k24 (a2, a3, false, ())) && ((k22 (a2, ())) && ((k22 (a3, ())) && ((k21 (160, ())) && ((k21 (160, ())) && (tt 1 (k12 (160, ())))))))) then some ((v24 (a2, a3, false, ())).1, (v24 (a2, a3, false, ())).2.1, (v24 (a2, a3, false, ())).2.2.1, ()) else none)))
theorem t8_160 (k12 : (Int × Unit) → Bool) (k21 : (Int × Unit) → Bool) (v22 : (KD0 × Unit) → (Int × (Bool × Unit))) (k22 : (KD0 × Unit) → Bool) (v24 : (KD0 × KD0 × Bool × Unit) → KD7) (k24 : (KD0 × KD0 × Bool × Unit) → Bool) (a1 : Bool) (a2 : KD0) (a3 : KD0) : fnT (CxL Try.Θ (kOf [(12, sm [(.int .i64)] (.int .i64) (fun _ => 48) k12), (21, sm [(.int .i64)] (.int .i64) (fun _ => 160) k21), (22, sm [KT4] KT6 v22 k22), (24, sm [KT4, KT4, .bool] (.tup KT4 KT5) v24 k24)]) (lOf [])) Try.f8 (.tup KT4 KT5) [⟨(.int .i64), 160⟩, ⟨.bool, a1⟩, ⟨KT4, a2⟩, ⟨KT4, a3⟩] = S8_160 k12 k21 v22 k22 v24 k24 a1 a2 a3 := by kernel_rfl
noncomputable def S8_176 (k12 : (Int × Unit) → Bool) (k21 : (Int × Unit) → Bool) (v22 : (KD0 × Unit) → (Int × (Bool × Unit))) (k22 : (KD0 × Unit) → Bool) (v24 : (KD0 × KD0 × Bool × Unit) → KD7) (k24 : (KD0 × KD0 × Bool × Unit) → Bool) (a1 : Bool) (a2 : KD0) (a3 : KD0) : Option KD7 :=
  (bif (!a1) then
    (bif (!(decide ((ishr .u64 (ior .u64 a2.2.2.1 a3.2.2.1) 32) = 0))) then
      some (a2, a3, true, ())
    else
      (bif ((k24 ((a2.1, (a2.2.1, ((if (IntKind.wrap .u64 (a3.2.2.1 - 0)) < a2.2.2.1 then (IntKind.wrap .u64 (a3.2.2.1 - 0)) else a2.2.2.1), a2.2.2.2))), (a3.1, ((if (IntKind.wrap .u64 (a2.2.1 + 0)) > a3.2.1 then (IntKind.wrap .u64 (a2.2.1 + 0)) else a3.2.1), a3.2.2)), true, ())) && ((k22 (a2, ())) && ((k22 (a3, ())) && ((k21 (176, ())) && ((k21 (176, ())) && (tt 1 (k12 (176, ())))))))) then some ((v24 ((a2.1, (a2.2.1, ((if (IntKind.wrap .u64 (a3.2.2.1 - 0)) < a2.2.2.1 then (IntKind.wrap .u64 (a3.2.2.1 - 0)) else a2.2.2.1), a2.2.2.2))), (a3.1, ((if (IntKind.wrap .u64 (a2.2.1 + 0)) > a3.2.1 then (IntKind.wrap .u64 (a2.2.1 + 0)) else a3.2.1), a3.2.2)), true, ())).1, (v24 ((a2.1, (a2.2.1, ((if (IntKind.wrap .u64 (a3.2.2.1 - 0)) < a2.2.2.1 then (IntKind.wrap .u64 (a3.2.2.1 - 0)) else a2.2.2.1), a2.2.2.2))), (a3.1, ((if (IntKind.wrap .u64 (a2.2.1 + 0)) > a3.2.1 then (IntKind.wrap .u64 (a2.2.1 + 0)) else a3.2.1), a3.2.2)), true, ())).2.1, (v24 ((a2.1, (a2.2.1, ((if (IntKind.wrap .u64 (a3.2.2.1 - 0)) < a2.2.2.1 then (IntKind.wrap .u64 (a3.2.2.1 - 0)) else a2.2.2.1), a2.2.2.2))), (a3.1, ((if (IntKind.wrap .u64 (a2.2.1 + 0)) > a3.2.1 then (IntKind.wrap .u64 (a2.2.1 + 0)) else a3.2.1), a3.2.2)), true, ())).2.2.1, ()) else none))
  else
    (bif ((k24 ((a2.1, (a2.2.1, ((if (IntKind.wrap .u64 (a3.2.2.1 - 0)) < a2.2.2.1 then (IntKind.wrap .u64 (a3.2.2.1 - 0)) else a2.2.2.1), a2.2.2.2))), (a3.1, ((if (IntKind.wrap .u64 (a2.2.1 + 0)) > a3.2.1 then (IntKind.wrap .u64 (a2.2.1 + 0)) else a3.2.1), a3.2.2)), true, ())) && ((k22 (a2, ())) && ((k22 (a3, ())) && ((k21 (176, ())) && ((k21 (176, ())) && (tt 1 (k12 (176, ())))))))) then some ((v24 ((a2.1, (a2.2.1, ((if (IntKind.wrap .u64 (a3.2.2.1 - 0)) < a2.2.2.1 then (IntKind.wrap .u64 (a3.2.2.1 - 0)) else a2.2.2.1), a2.2.2.2))), (a3.1, ((if (IntKind.wrap .u64 (a2.2.1 + 0)) > a3.2.1 then (IntKind.wrap .u64 (a2.2.1 + 0)) else a3.2.1), a3.2.2)), true, ())).1, (v24 ((a2.1, (a2.2.1, ((if (IntKind.wrap .u64 (a3.2.2.1 - 0)) < a2.2.2.1 then (IntKind.wrap .u64 (a3.2.2.1 - 0)) else a2.2.2.1), a2.2.2.2))), (a3.1, ((if (IntKind.wrap .u64 (a2.2.1 + 0)) > a3.2.1 then (IntKind.wrap .u64 (a2.2.1 + 0)) else a3.2.1), a3.2.2)), true, ())).2.1, (v24 ((a2.1, (a2.2.1, ((if (IntKind.wrap .u64 (a3.2.2.1 - 0)) < a2.2.2.1 then (IntKind.wrap .u64 (a3.2.2.1 - 0)) else a2.2.2.1), a2.2.2.2))), (a3.1, ((if (IntKind.wrap .u64 (a2.2.1 + 0)) > a3.2.1 then (IntKind.wrap .u64 (a2.2.1 + 0)) else a3.2.1), a3.2.2)), true, ())).2.2.1, ()) else none))
theorem t8_176 (k12 : (Int × Unit) → Bool) (k21 : (Int × Unit) → Bool) (v22 : (KD0 × Unit) → (Int × (Bool × Unit))) (k22 : (KD0 × Unit) → Bool) (v24 : (KD0 × KD0 × Bool × Unit) → KD7) (k24 : (KD0 × KD0 × Bool × Unit) → Bool) (a1 : Bool) (a2 : KD0) (a3 : KD0) : fnT (CxL Try.Θ (kOf [(12, sm [(.int .i64)] (.int .i64) (fun _ => 32) k12), (21, sm [(.int .i64)] (.int .i64) (fun _ => 176) k21), (22, sm [KT4] KT6 v22 k22), (24, sm [KT4, KT4, .bool] (.tup KT4 KT5) v24 k24)]) (lOf [])) Try.f8 (.tup KT4 KT5) [⟨(.int .i64), 176⟩, ⟨.bool, a1⟩, ⟨KT4, a2⟩, ⟨KT4, a3⟩] = S8_176 k12 k21 v22 k22 v24 k24 a1 a2 a3 := by kernel_rfl
noncomputable def S8_192 (k12 : (Int × Unit) → Bool) (k21 : (Int × Unit) → Bool) (v22 : (KD0 × Unit) → (Int × (Bool × Unit))) (k22 : (KD0 × Unit) → Bool) (v24 : (KD0 × KD0 × Bool × Unit) → KD7) (k24 : (KD0 × KD0 × Bool × Unit) → Bool) (a1 : Bool) (a2 : KD0) (a3 : KD0) : Option KD7 :=
  (bif (!a1) then
    (bif (!(decide ((ishr .u64 (ior .u64 a2.2.2.1 a3.2.2.1) 32) = 0))) then
      some (a2, a3, true, ())
    else
      (bif (decide (a2.2.2.1 ≥ 2147483648)) then
        (bif ((k21 (192, ())) && (tt 1 (k12 (192, ())))) then some (a2, a3, true, ()) else none)
      else
        (bif (decide (a3.2.2.1 ≥ 2147483648)) then
          (bif ((k21 (192, ())) && (tt 1 (k12 (192, ())))) then some (a2, a3, true, ()) else none)
        else
          (bif (!(decide (a2.2.1 = 18446744073709551615))) then
            (bif (!(decide (a3.2.2.1 = 0))) then
              (bif ((k24 ((a2.1, (a2.2.1, ((if (IntKind.wrap .u64 (a3.2.2.1 - 1)) < a2.2.2.1 then (IntKind.wrap .u64 (a3.2.2.1 - 1)) else a2.2.2.1), a2.2.2.2))), (a3.1, ((if (IntKind.wrap .u64 (a2.2.1 + 1)) > a3.2.1 then (IntKind.wrap .u64 (a2.2.1 + 1)) else a3.2.1), a3.2.2)), (!(decide (a3.2.2.1 = 0))), ())) && ((k22 (a2, ())) && ((k22 (a3, ())) && ((k21 (192, ())) && ((k21 (192, ())) && (tt 1 (k12 (192, ())))))))) then some ((v24 ((a2.1, (a2.2.1, ((if (IntKind.wrap .u64 (a3.2.2.1 - 1)) < a2.2.2.1 then (IntKind.wrap .u64 (a3.2.2.1 - 1)) else a2.2.2.1), a2.2.2.2))), (a3.1, ((if (IntKind.wrap .u64 (a2.2.1 + 1)) > a3.2.1 then (IntKind.wrap .u64 (a2.2.1 + 1)) else a3.2.1), a3.2.2)), (!(decide (a3.2.2.1 = 0))), ())).1, (v24 ((a2.1, (a2.2.1, ((if (IntKind.wrap .u64 (a3.2.2.1 - 1)) < a2.2.2.1 then (IntKind.wrap .u64 (a3.2.2.1 - 1)) else a2.2.2.1), a2.2.2.2))), (a3.1, ((if (IntKind.wrap .u64 (a2.2.1 + 1)) > a3.2.1 then (IntKind.wrap .u64 (a2.2.1 + 1)) else a3.2.1), a3.2.2)), (!(decide (a3.2.2.1 = 0))), ())).2.1, (v24 ((a2.1, (a2.2.1, ((if (IntKind.wrap .u64 (a3.2.2.1 - 1)) < a2.2.2.1 then (IntKind.wrap .u64 (a3.2.2.1 - 1)) else a2.2.2.1), a2.2.2.2))), (a3.1, ((if (IntKind.wrap .u64 (a2.2.1 + 1)) > a3.2.1 then (IntKind.wrap .u64 (a2.2.1 + 1)) else a3.2.1), a3.2.2)), (!(decide (a3.2.2.1 = 0))), ())).2.2.1, ()) else none)
            else
              (bif ((k24 (a2, a3, (!(decide (a3.2.2.1 = 0))), ())) && ((k22 (a2, ())) && ((k22 (a3, ())) && ((k21 (192, ())) && ((k21 (192, ())) && (tt 1 (k12 (192, ())))))))) then some ((v24 (a2, a3, (!(decide (a3.2.2.1 = 0))), ())).1, (v24 (a2, a3, (!(decide (a3.2.2.1 = 0))), ())).2.1, (v24 (a2, a3, (!(decide (a3.2.2.1 = 0))), ())).2.2.1, ()) else none))
          else
            (bif ((k24 (a2, a3, false, ())) && ((k22 (a2, ())) && ((k22 (a3, ())) && ((k21 (192, ())) && ((k21 (192, ())) && (tt 1 (k12 (192, ())))))))) then some ((v24 (a2, a3, false, ())).1, (v24 (a2, a3, false, ())).2.1, (v24 (a2, a3, false, ())).2.2.1, ()) else none)))))
  else
    (bif (decide (a2.2.2.1 ≥ 9223372036854775808)) then
      (bif ((k21 (192, ())) && (tt 1 (k12 (192, ())))) then some (a2, a3, true, ()) else none)
    else
      (bif (decide (a3.2.2.1 ≥ 9223372036854775808)) then
        (bif ((k21 (192, ())) && (tt 1 (k12 (192, ())))) then some (a2, a3, true, ()) else none)
      else
        (bif (!(decide (a2.2.1 = 18446744073709551615))) then
          (bif (!(decide (a3.2.2.1 = 0))) then
            (bif ((k24 ((a2.1, (a2.2.1, ((if (IntKind.wrap .u64 (a3.2.2.1 - 1)) < a2.2.2.1 then (IntKind.wrap .u64 (a3.2.2.1 - 1)) else a2.2.2.1), a2.2.2.2))), (a3.1, ((if (IntKind.wrap .u64 (a2.2.1 + 1)) > a3.2.1 then (IntKind.wrap .u64 (a2.2.1 + 1)) else a3.2.1), a3.2.2)), (!(decide (a3.2.2.1 = 0))), ())) && ((k22 (a2, ())) && ((k22 (a3, ())) && ((k21 (192, ())) && ((k21 (192, ())) && (tt 1 (k12 (192, ())))))))) then some ((v24 ((a2.1, (a2.2.1, ((if (IntKind.wrap .u64 (a3.2.2.1 - 1)) < a2.2.2.1 then (IntKind.wrap .u64 (a3.2.2.1 - 1)) else a2.2.2.1), a2.2.2.2))), (a3.1, ((if (IntKind.wrap .u64 (a2.2.1 + 1)) > a3.2.1 then (IntKind.wrap .u64 (a2.2.1 + 1)) else a3.2.1), a3.2.2)), (!(decide (a3.2.2.1 = 0))), ())).1, (v24 ((a2.1, (a2.2.1, ((if (IntKind.wrap .u64 (a3.2.2.1 - 1)) < a2.2.2.1 then (IntKind.wrap .u64 (a3.2.2.1 - 1)) else a2.2.2.1), a2.2.2.2))), (a3.1, ((if (IntKind.wrap .u64 (a2.2.1 + 1)) > a3.2.1 then (IntKind.wrap .u64 (a2.2.1 + 1)) else a3.2.1), a3.2.2)), (!(decide (a3.2.2.1 = 0))), ())).2.1, (v24 ((a2.1, (a2.2.1, ((if (IntKind.wrap .u64 (a3.2.2.1 - 1)) < a2.2.2.1 then (IntKind.wrap .u64 (a3.2.2.1 - 1)) else a2.2.2.1), a2.2.2.2))), (a3.1, ((if (IntKind.wrap .u64 (a2.2.1 + 1)) > a3.2.1 then (IntKind.wrap .u64 (a2.2.1 + 1)) else a3.2.1), a3.2.2)), (!(decide (a3.2.2.1 = 0))), ())).2.2.1, ()) else none)
          else
            (bif ((k24 (a2, a3, (!(decide (a3.2.2.1 = 0))), ())) && ((k22 (a2, ())) && ((k22 (a3, ())) && ((k21 (192, ())) && ((k21 (192, ())) && (tt 1 (k12 (192, ())))))))) then some ((v24 (a2, a3, (!(decide (a3.2.2.1 = 0))), ())).1, (v24 (a2, a3, (!(decide (a3.2.2.1 = 0))), ())).2.1, (v24 (a2, a3, (!(decide (a3.2.2.1 = 0))), ())).2.2.1, ()) else none))
        else
          (bif ((k24 (a2, a3, false, ())) && ((k22 (a2, ())) && ((k22 (a3, ())) && ((k21 (192, ())) && ((k21 (192, ())) && (tt 1 (k12 (192, ())))))))) then some ((v24 (a2, a3, false, ())).1, (v24 (a2, a3, false, ())).2.1, (v24 (a2, a3, false, ())).2.2.1, ()) else none)))))
theorem t8_192 (k12 : (Int × Unit) → Bool) (k21 : (Int × Unit) → Bool) (v22 : (KD0 × Unit) → (Int × (Bool × Unit))) (k22 : (KD0 × Unit) → Bool) (v24 : (KD0 × KD0 × Bool × Unit) → KD7) (k24 : (KD0 × KD0 × Bool × Unit) → Bool) (a1 : Bool) (a2 : KD0) (a3 : KD0) : fnT (CxL Try.Θ (kOf [(12, sm [(.int .i64)] (.int .i64) (fun _ => 112) k12), (21, sm [(.int .i64)] (.int .i64) (fun _ => 160) k21), (22, sm [KT4] KT6 v22 k22), (24, sm [KT4, KT4, .bool] (.tup KT4 KT5) v24 k24)]) (lOf [])) Try.f8 (.tup KT4 KT5) [⟨(.int .i64), 192⟩, ⟨.bool, a1⟩, ⟨KT4, a2⟩, ⟨KT4, a3⟩] = S8_192 k12 k21 v22 k22 v24 k24 a1 a2 a3 := by kernel_rfl
noncomputable def S8_208 (k12 : (Int × Unit) → Bool) (k21 : (Int × Unit) → Bool) (v22 : (KD0 × Unit) → (Int × (Bool × Unit))) (k22 : (KD0 × Unit) → Bool) (v24 : (KD0 × KD0 × Bool × Unit) → KD7) (k24 : (KD0 × KD0 × Bool × Unit) → Bool) (a1 : Bool) (a2 : KD0) (a3 : KD0) : Option KD7 :=
  (bif (!a1) then
    (bif (!(decide ((ishr .u64 (ior .u64 a2.2.2.1 a3.2.2.1) 32) = 0))) then
      some (a2, a3, true, ())
    else
      (bif (decide (a2.2.2.1 ≥ 2147483648)) then
        (bif ((k21 (208, ())) && (tt 1 (k12 (208, ())))) then some (a2, a3, true, ()) else none)
      else
        (bif (decide (a3.2.2.1 ≥ 2147483648)) then
          (bif ((k21 (208, ())) && (tt 1 (k12 (208, ())))) then some (a2, a3, true, ()) else none)
        else
          (bif ((k24 ((a2.1, (a2.2.1, ((if (IntKind.wrap .u64 (a3.2.2.1 - 0)) < a2.2.2.1 then (IntKind.wrap .u64 (a3.2.2.1 - 0)) else a2.2.2.1), a2.2.2.2))), (a3.1, ((if (IntKind.wrap .u64 (a2.2.1 + 0)) > a3.2.1 then (IntKind.wrap .u64 (a2.2.1 + 0)) else a3.2.1), a3.2.2)), true, ())) && ((k22 (a2, ())) && ((k22 (a3, ())) && ((k21 (208, ())) && ((k21 (208, ())) && (tt 1 (k12 (208, ())))))))) then some ((v24 ((a2.1, (a2.2.1, ((if (IntKind.wrap .u64 (a3.2.2.1 - 0)) < a2.2.2.1 then (IntKind.wrap .u64 (a3.2.2.1 - 0)) else a2.2.2.1), a2.2.2.2))), (a3.1, ((if (IntKind.wrap .u64 (a2.2.1 + 0)) > a3.2.1 then (IntKind.wrap .u64 (a2.2.1 + 0)) else a3.2.1), a3.2.2)), true, ())).1, (v24 ((a2.1, (a2.2.1, ((if (IntKind.wrap .u64 (a3.2.2.1 - 0)) < a2.2.2.1 then (IntKind.wrap .u64 (a3.2.2.1 - 0)) else a2.2.2.1), a2.2.2.2))), (a3.1, ((if (IntKind.wrap .u64 (a2.2.1 + 0)) > a3.2.1 then (IntKind.wrap .u64 (a2.2.1 + 0)) else a3.2.1), a3.2.2)), true, ())).2.1, (v24 ((a2.1, (a2.2.1, ((if (IntKind.wrap .u64 (a3.2.2.1 - 0)) < a2.2.2.1 then (IntKind.wrap .u64 (a3.2.2.1 - 0)) else a2.2.2.1), a2.2.2.2))), (a3.1, ((if (IntKind.wrap .u64 (a2.2.1 + 0)) > a3.2.1 then (IntKind.wrap .u64 (a2.2.1 + 0)) else a3.2.1), a3.2.2)), true, ())).2.2.1, ()) else none))))
  else
    (bif (decide (a2.2.2.1 ≥ 9223372036854775808)) then
      (bif ((k21 (208, ())) && (tt 1 (k12 (208, ())))) then some (a2, a3, true, ()) else none)
    else
      (bif (decide (a3.2.2.1 ≥ 9223372036854775808)) then
        (bif ((k21 (208, ())) && (tt 1 (k12 (208, ())))) then some (a2, a3, true, ()) else none)
      else
        (bif ((k24 ((a2.1, (a2.2.1, ((if (IntKind.wrap .u64 (a3.2.2.1 - 0)) < a2.2.2.1 then (IntKind.wrap .u64 (a3.2.2.1 - 0)) else a2.2.2.1), a2.2.2.2))), (a3.1, ((if (IntKind.wrap .u64 (a2.2.1 + 0)) > a3.2.1 then (IntKind.wrap .u64 (a2.2.1 + 0)) else a3.2.1), a3.2.2)), true, ())) && ((k22 (a2, ())) && ((k22 (a3, ())) && ((k21 (208, ())) && ((k21 (208, ())) && (tt 1 (k12 (208, ())))))))) then some ((v24 ((a2.1, (a2.2.1, ((if (IntKind.wrap .u64 (a3.2.2.1 - 0)) < a2.2.2.1 then (IntKind.wrap .u64 (a3.2.2.1 - 0)) else a2.2.2.1), a2.2.2.2))), (a3.1, ((if (IntKind.wrap .u64 (a2.2.1 + 0)) > a3.2.1 then (IntKind.wrap .u64 (a2.2.1 + 0)) else a3.2.1), a3.2.2)), true, ())).1, (v24 ((a2.1, (a2.2.1, ((if (IntKind.wrap .u64 (a3.2.2.1 - 0)) < a2.2.2.1 then (IntKind.wrap .u64 (a3.2.2.1 - 0)) else a2.2.2.1), a2.2.2.2))), (a3.1, ((if (IntKind.wrap .u64 (a2.2.1 + 0)) > a3.2.1 then (IntKind.wrap .u64 (a2.2.1 + 0)) else a3.2.1), a3.2.2)), true, ())).2.1, (v24 ((a2.1, (a2.2.1, ((if (IntKind.wrap .u64 (a3.2.2.1 - 0)) < a2.2.2.1 then (IntKind.wrap .u64 (a3.2.2.1 - 0)) else a2.2.2.1), a2.2.2.2))), (a3.1, ((if (IntKind.wrap .u64 (a2.2.1 + 0)) > a3.2.1 then (IntKind.wrap .u64 (a2.2.1 + 0)) else a3.2.1), a3.2.2)), true, ())).2.2.1, ()) else none))))
theorem t8_208 (k12 : (Int × Unit) → Bool) (k21 : (Int × Unit) → Bool) (v22 : (KD0 × Unit) → (Int × (Bool × Unit))) (k22 : (KD0 × Unit) → Bool) (v24 : (KD0 × KD0 × Bool × Unit) → KD7) (k24 : (KD0 × KD0 × Bool × Unit) → Bool) (a1 : Bool) (a2 : KD0) (a3 : KD0) : fnT (CxL Try.Θ (kOf [(12, sm [(.int .i64)] (.int .i64) (fun _ => 96) k12), (21, sm [(.int .i64)] (.int .i64) (fun _ => 176) k21), (22, sm [KT4] KT6 v22 k22), (24, sm [KT4, KT4, .bool] (.tup KT4 KT5) v24 k24)]) (lOf [])) Try.f8 (.tup KT4 KT5) [⟨(.int .i64), 208⟩, ⟨.bool, a1⟩, ⟨KT4, a2⟩, ⟨KT4, a3⟩] = S8_208 k12 k21 v22 k22 v24 k24 a1 a2 a3 := by kernel_rfl
noncomputable def S8_n (k12 : (Int × Unit) → Bool) (a0 : Int) (a1 : Bool) (a2 : KD0) (a3 : KD0) : Option KD7 :=
  (bif (!a1) then
    (bif (!(decide ((ishr .u64 (ior .u64 a2.2.2.1 a3.2.2.1) 32) = 0))) then some (a2, a3, true, ()) else (bif (tt 1 (k12 (a0, ()))) then some (a2, a3, true, ()) else none))
  else
    (bif (tt 1 (k12 (a0, ()))) then some (a2, a3, true, ()) else none))
theorem t8_n (k12 : (Int × Unit) → Bool) (a0 : Int) (a1 : Bool) (a2 : KD0) (a3 : KD0) : fnT (CxL Try.Θ (kOf [(12, sm [(.int .i64)] (.int .i64) (fun _ => (-1)) k12)]) (lOf [])) Try.f8 (.tup KT4 KT5) [⟨(.int .i64), a0⟩, ⟨.bool, a1⟩, ⟨KT4, a2⟩, ⟨KT4, a3⟩] = S8_n k12 a0 a1 a2 a3 := by kernel_rfl
def hd13_0 : List It := [.sl 0 (.int .i64), .ow 3 2 (.int .i64), .ow 4 3 (.int .i64), .sl 5 (.int .i64)]
def ys13_0 : Ways := [((.exit 0), []), (.ret, [.sl 2 (.int .i64)])]
noncomputable def R13_0 (lv0 : (Int × (List Int) × (List Int) × Int × Unit) → ((Unit) ⊕ (Int × Unit))) (lk0 : (Int × (List Int) × (List Int) × Int × Unit) → Bool) (x0 : Int) (x1 : (List Int)) (x2 : (List Int)) (x3 : Int) : Option ((Int × (List Int) × (List Int) × Int × Unit) ⊕ ((Unit) ⊕ (Int × Unit))) :=
  (bif (decide (x3 < ((x1.length : Nat) : Int))) then
    (bif (decide ((x1.getD (0 + (Int.toNat x3)) 0) = x0)) then
      (bif (tt 1 ((tt 1 (decide (((0 + (Int.toNat x3)) : Nat) < x2.length))) && (((decide (0 ≤ x3)) && (decide (x3 < ((x2.length : Nat) : Int)))) && ((tt 1 (decide (((0 + (Int.toNat x3)) : Nat) < x1.length))) && (tt 1 ((decide (0 ≤ x3)) && (decide (x3 < ((x1.length : Nat) : Int))))))))) then some (.inr (.inr ((x2.getD (0 + (Int.toNat x3)) 0), ()))) else none)
    else
      (bif (decide ((x2.getD (0 + (Int.toNat x3)) 0) = x0)) then
        (bif (tt 1 ((tt 1 (decide (((0 + (Int.toNat x3)) : Nat) < x1.length))) && (((decide (0 ≤ x3)) && (decide (x3 < ((x1.length : Nat) : Int)))) && ((tt 1 (decide (((0 + (Int.toNat x3)) : Nat) < x2.length))) && (((decide (0 ≤ x3)) && (decide (x3 < ((x2.length : Nat) : Int)))) && ((tt 1 (decide (((0 + (Int.toNat x3)) : Nat) < x1.length))) && (tt 1 ((decide (0 ≤ x3)) && (decide (x3 < ((x1.length : Nat) : Int))))))))))) then some (.inr (.inr ((x1.getD (0 + (Int.toNat x3)) 0), ()))) else none)
      else
        (bif (((decide (((0 + x1.length) : Nat) ≤ x1.length)) && (tt 1 (decide (((0 + x2.length) : Nat) ≤ x2.length)))) && (tt 1 ((tt 1 (decide (((0 + (Int.toNat x3)) : Nat) < x2.length))) && (((decide (0 ≤ x3)) && (decide (x3 < ((x2.length : Nat) : Int)))) && ((tt 1 (decide (((0 + (Int.toNat x3)) : Nat) < x1.length))) && (tt 1 ((decide (0 ≤ x3)) && (decide (x3 < ((x1.length : Nat) : Int)))))))))) then some (.inl (x0, (sec 0 x1 0 x1.length), (sec 0 x2 0 x2.length), (IntKind.wrap .i64 (x3 + 1)), ())) else none)))
  else
    some (.inr (.inl (()))))
theorem r13_0 (lv0 : (Int × (List Int) × (List Int) × Int × Unit) → ((Unit) ⊕ (Int × Unit))) (lk0 : (Int × (List Int) × (List Int) × Int × Unit) → Bool) (x0 : Int) (x1 : (List Int)) (x2 : (List Int)) (x3 : Int) : codeT (CxL Try.Θ (kOf []) (lOf [(0, orc 34 26 0 hd13_0 ys13_0 lv0 lk0)])) (loopB 0 (bodyF Try.f13)) (mkS 34 26 hd13_0 (x0, x1, x2, x3, ())) (leafR 34 hd13_0 ys13_0) = R13_0 lv0 lk0 x0 x1 x2 x3 := by kernel_rfl
noncomputable def S13 (lv0 : (Int × (List Int) × (List Int) × Int × Unit) → ((Unit) ⊕ (Int × Unit))) (lk0 : (Int × (List Int) × (List Int) × Int × Unit) → Bool) (a0 : Int) : Option Int :=
  (bif (isL (lv0 (a0, [16, 32, 48, 64, 96, 112], [80, 176, 160, 68, 208, 192], 0, ()))) then
    (bif (tt 1 (lk0 (a0, [16, 32, 48, 64, 96, 112], [80, 176, 160, 68, 208, 192], 0, ()))) then some (-1) else none)
  else
    (bif (tt 1 (lk0 (a0, [16, 32, 48, 64, 96, 112], [80, 176, 160, 68, 208, 192], 0, ()))) then some (getR ((0, ()) : (Int × Unit)) (lv0 (a0, [16, 32, 48, 64, 96, 112], [80, 176, 160, 68, 208, 192], 0, ()))).1 else none))
theorem t13 (lv0 : (Int × (List Int) × (List Int) × Int × Unit) → ((Unit) ⊕ (Int × Unit))) (lk0 : (Int × (List Int) × (List Int) × Int × Unit) → Bool) (a0 : Int) : fnT (CxL Try.Θ (kOf []) (lOf [(0, orc 34 26 0 hd13_0 ys13_0 lv0 lk0)])) Try.f13 (.int .i64) [⟨(.int .i64), a0⟩] = S13 lv0 lk0 a0 := by kernel_rfl
noncomputable def S27 (v18 : (KD0 × Unit) → (KD0 × (Bool × Unit))) (k18 : (KD0 × Unit) → Bool) (a0 : KD0) (a1 : KD0) : Option KD7 :=
  (bif (!(v18 (a0, ())).2.1) then
    (bif ((k18 (a1, ())) && (tt 1 (k18 (a0, ())))) then some (((0, (0, ())), (0, (0, ()))), ((0, (0, ())), (0, (0, ()))), false, ()) else none)
  else
    (bif (!(v18 (a1, ())).2.1) then
      (bif ((k18 (a1, ())) && (tt 1 (k18 (a0, ())))) then some (((0, (0, ())), (0, (0, ()))), ((0, (0, ())), (0, (0, ()))), false, ()) else none)
    else
      (bif ((k18 (a1, ())) && (tt 1 (k18 (a0, ())))) then some ((v18 (a0, ())).1, (v18 (a1, ())).1, true, ()) else none)))
theorem t27 (v18 : (KD0 × Unit) → (KD0 × (Bool × Unit))) (k18 : (KD0 × Unit) → Bool) (a0 : KD0) (a1 : KD0) : fnT (CxL Try.Θ (kOf [(18, sm [KT4] KT5 v18 k18)]) (lOf [])) Try.f27 (.tup KT4 KT5) [⟨KT4, a0⟩, ⟨KT4, a1⟩] = S27 v18 k18 a0 a1 := by kernel_rfl
noncomputable def S41  (a0 : KD0) : Option (Int × (Bool × Unit)) :=
  (bif (!(decide (a0.1.2.1 = 0))) then some (0, false, ()) else some (a0.1.1, true, ()))
theorem t41  (a0 : KD0) : fnT (CxL Try.Θ (kOf []) (lOf [])) Try.f41 KT6 [⟨KT4, a0⟩] = S41  a0 := by kernel_rfl
noncomputable def S42  (a0 : KD0) (a1 : Int) : Option (KD0 × (Bool × Unit)) :=
  (bif (decide (a0.2.1 = a1)) then
    (bif (decide (a1 = 18446744073709551615)) then
      some (a0, false, ())
    else
      (bif (decide (a0.2.2.1 = a1)) then
        (bif (decide (a1 = 0)) then
          some ((a0.1, ((IntKind.wrap .u64 (a0.2.1 + 1)), a0.2.2)), false, ())
        else
          some ((a0.1, ((IntKind.wrap .u64 (a0.2.1 + 1)), ((IntKind.wrap .u64 (a0.2.2.1 - 1)), a0.2.2.2))), true, ()))
      else
        some ((a0.1, ((IntKind.wrap .u64 (a0.2.1 + 1)), a0.2.2)), true, ())))
  else
    (bif (decide (a0.2.2.1 = a1)) then
      (bif (decide (a1 = 0)) then some (a0, false, ()) else some ((a0.1, (a0.2.1, ((IntKind.wrap .u64 (a0.2.2.1 - 1)), a0.2.2.2))), true, ()))
    else
      some (a0, true, ())))
theorem t42  (a0 : KD0) (a1 : Int) : fnT (CxL Try.Θ (kOf []) (lOf [])) Try.f42 KT5 [⟨KT4, a0⟩, ⟨(.int .u64), a1⟩] = S42  a0 a1 := by kernel_rfl
noncomputable def S28 (v27 : (KD0 × KD0 × Unit) → KD7) (k27 : (KD0 × KD0 × Unit) → Bool) (v41 : (KD0 × Unit) → (Int × (Bool × Unit))) (k41 : (KD0 × Unit) → Bool) (v42 : (KD0 × Int × Unit) → (KD0 × (Bool × Unit))) (k42 : (KD0 × Int × Unit) → Bool) (a0 : KD0) (a1 : KD0) : Option KD7 :=
  (bif (v41 (a0, ())).2.1 then
    (bif (v41 (a1, ())).2.1 then
      (bif (!(decide ((v41 (a0, ())).1 = (v41 (a1, ())).1))) then
        (bif (v41 (a1, ())).2.1 then
          (bif (v42 (a0, (v41 (a1, ())).1, ())).2.1 then
            (bif (v41 (a0, ())).2.1 then
              (bif (!(v42 (a1, (v41 (a0, ())).1, ())).2.1) then
                (bif ((k42 (a1, (v41 (a0, ())).1, ())) && ((k42 (a0, (v41 (a1, ())).1, ())) && ((k41 (a1, ())) && (tt 1 (k41 (a0, ())))))) then some (((0, (0, ())), (0, (0, ()))), ((0, (0, ())), (0, (0, ()))), false, ()) else none)
              else
                (bif ((k27 ((v42 (a0, (v41 (a1, ())).1, ())).1, (v42 (a1, (v41 (a0, ())).1, ())).1, ())) && ((k42 (a1, (v41 (a0, ())).1, ())) && ((k42 (a0, (v41 (a1, ())).1, ())) && ((k41 (a1, ())) && (tt 1 (k41 (a0, ()))))))) then some ((v27 ((v42 (a0, (v41 (a1, ())).1, ())).1, (v42 (a1, (v41 (a0, ())).1, ())).1, ())).1, (v27 ((v42 (a0, (v41 (a1, ())).1, ())).1, (v42 (a1, (v41 (a0, ())).1, ())).1, ())).2.1, (v27 ((v42 (a0, (v41 (a1, ())).1, ())).1, (v42 (a1, (v41 (a0, ())).1, ())).1, ())).2.2.1, ()) else none))
            else
              (bif (!(v42 (a0, (v41 (a1, ())).1, ())).2.1) then
                (bif ((k42 (a0, (v41 (a1, ())).1, ())) && ((k41 (a1, ())) && (tt 1 (k41 (a0, ()))))) then some (((0, (0, ())), (0, (0, ()))), ((0, (0, ())), (0, (0, ()))), false, ()) else none)
              else
                (bif ((k27 ((v42 (a0, (v41 (a1, ())).1, ())).1, a1, ())) && ((k42 (a0, (v41 (a1, ())).1, ())) && ((k41 (a1, ())) && (tt 1 (k41 (a0, ())))))) then some ((v27 ((v42 (a0, (v41 (a1, ())).1, ())).1, a1, ())).1, (v27 ((v42 (a0, (v41 (a1, ())).1, ())).1, a1, ())).2.1, (v27 ((v42 (a0, (v41 (a1, ())).1, ())).1, a1, ())).2.2.1, ()) else none)))
          else
            (bif (!(v42 (a0, (v41 (a1, ())).1, ())).2.1) then
              (bif ((k42 (a0, (v41 (a1, ())).1, ())) && ((k41 (a1, ())) && (tt 1 (k41 (a0, ()))))) then some (((0, (0, ())), (0, (0, ()))), ((0, (0, ())), (0, (0, ()))), false, ()) else none)
            else
              (bif ((k27 ((v42 (a0, (v41 (a1, ())).1, ())).1, a1, ())) && ((k42 (a0, (v41 (a1, ())).1, ())) && ((k41 (a1, ())) && (tt 1 (k41 (a0, ())))))) then some ((v27 ((v42 (a0, (v41 (a1, ())).1, ())).1, a1, ())).1, (v27 ((v42 (a0, (v41 (a1, ())).1, ())).1, a1, ())).2.1, (v27 ((v42 (a0, (v41 (a1, ())).1, ())).1, a1, ())).2.2.1, ()) else none)))
        else
          (bif (!(decide ((v41 (a0, ())).1 = (v41 (a1, ())).1))) then
            (bif (v41 (a0, ())).2.1 then
              (bif (!(v42 (a1, (v41 (a0, ())).1, ())).2.1) then
                (bif ((k42 (a1, (v41 (a0, ())).1, ())) && ((k41 (a1, ())) && (tt 1 (k41 (a0, ()))))) then some (((0, (0, ())), (0, (0, ()))), ((0, (0, ())), (0, (0, ()))), false, ()) else none)
              else
                (bif ((k27 (a0, (v42 (a1, (v41 (a0, ())).1, ())).1, ())) && ((k42 (a1, (v41 (a0, ())).1, ())) && ((k41 (a1, ())) && (tt 1 (k41 (a0, ())))))) then some ((v27 (a0, (v42 (a1, (v41 (a0, ())).1, ())).1, ())).1, (v27 (a0, (v42 (a1, (v41 (a0, ())).1, ())).1, ())).2.1, (v27 (a0, (v42 (a1, (v41 (a0, ())).1, ())).1, ())).2.2.1, ()) else none))
            else
              (bif (!(!(decide ((v41 (a0, ())).1 = (v41 (a1, ())).1)))) then
                (bif ((k41 (a1, ())) && (tt 1 (k41 (a0, ())))) then some (((0, (0, ())), (0, (0, ()))), ((0, (0, ())), (0, (0, ()))), false, ()) else none)
              else
                (bif ((k27 (a0, a1, ())) && ((k41 (a1, ())) && (tt 1 (k41 (a0, ()))))) then some ((v27 (a0, a1, ())).1, (v27 (a0, a1, ())).2.1, (v27 (a0, a1, ())).2.2.1, ()) else none)))
          else
            (bif (!(!(decide ((v41 (a0, ())).1 = (v41 (a1, ())).1)))) then
              (bif ((k41 (a1, ())) && (tt 1 (k41 (a0, ())))) then some (((0, (0, ())), (0, (0, ()))), ((0, (0, ())), (0, (0, ()))), false, ()) else none)
            else
              (bif ((k27 (a0, a1, ())) && ((k41 (a1, ())) && (tt 1 (k41 (a0, ()))))) then some ((v27 (a0, a1, ())).1, (v27 (a0, a1, ())).2.1, (v27 (a0, a1, ())).2.2.1, ()) else none))))
      else
        (bif (!(decide ((v41 (a0, ())).1 = (v41 (a1, ())).1))) then
          (bif (v41 (a0, ())).2.1 then
            (bif (!(v42 (a1, (v41 (a0, ())).1, ())).2.1) then
              (bif ((k42 (a1, (v41 (a0, ())).1, ())) && ((k41 (a1, ())) && (tt 1 (k41 (a0, ()))))) then some (((0, (0, ())), (0, (0, ()))), ((0, (0, ())), (0, (0, ()))), false, ()) else none)
            else
              (bif ((k27 (a0, (v42 (a1, (v41 (a0, ())).1, ())).1, ())) && ((k42 (a1, (v41 (a0, ())).1, ())) && ((k41 (a1, ())) && (tt 1 (k41 (a0, ())))))) then some ((v27 (a0, (v42 (a1, (v41 (a0, ())).1, ())).1, ())).1, (v27 (a0, (v42 (a1, (v41 (a0, ())).1, ())).1, ())).2.1, (v27 (a0, (v42 (a1, (v41 (a0, ())).1, ())).1, ())).2.2.1, ()) else none))
          else
            (bif (!(!(decide ((v41 (a0, ())).1 = (v41 (a1, ())).1)))) then
              (bif ((k41 (a1, ())) && (tt 1 (k41 (a0, ())))) then some (((0, (0, ())), (0, (0, ()))), ((0, (0, ())), (0, (0, ()))), false, ()) else none)
            else
              (bif ((k27 (a0, a1, ())) && ((k41 (a1, ())) && (tt 1 (k41 (a0, ()))))) then some ((v27 (a0, a1, ())).1, (v27 (a0, a1, ())).2.1, (v27 (a0, a1, ())).2.2.1, ()) else none)))
        else
          (bif (!(!(decide ((v41 (a0, ())).1 = (v41 (a1, ())).1)))) then
            (bif ((k41 (a1, ())) && (tt 1 (k41 (a0, ())))) then some (((0, (0, ())), (0, (0, ()))), ((0, (0, ())), (0, (0, ()))), false, ()) else none)
          else
            (bif ((k27 (a0, a1, ())) && ((k41 (a1, ())) && (tt 1 (k41 (a0, ()))))) then some ((v27 (a0, a1, ())).1, (v27 (a0, a1, ())).2.1, (v27 (a0, a1, ())).2.2.1, ()) else none))))
    else
      (bif (v41 (a1, ())).2.1 then
        (bif (v42 (a0, (v41 (a1, ())).1, ())).2.1 then
          (bif (v41 (a0, ())).2.1 then
            (bif (!(v42 (a1, (v41 (a0, ())).1, ())).2.1) then
              (bif ((k42 (a1, (v41 (a0, ())).1, ())) && ((k42 (a0, (v41 (a1, ())).1, ())) && ((k41 (a1, ())) && (tt 1 (k41 (a0, ())))))) then some (((0, (0, ())), (0, (0, ()))), ((0, (0, ())), (0, (0, ()))), false, ()) else none)
            else
              (bif ((k27 ((v42 (a0, (v41 (a1, ())).1, ())).1, (v42 (a1, (v41 (a0, ())).1, ())).1, ())) && ((k42 (a1, (v41 (a0, ())).1, ())) && ((k42 (a0, (v41 (a1, ())).1, ())) && ((k41 (a1, ())) && (tt 1 (k41 (a0, ()))))))) then some ((v27 ((v42 (a0, (v41 (a1, ())).1, ())).1, (v42 (a1, (v41 (a0, ())).1, ())).1, ())).1, (v27 ((v42 (a0, (v41 (a1, ())).1, ())).1, (v42 (a1, (v41 (a0, ())).1, ())).1, ())).2.1, (v27 ((v42 (a0, (v41 (a1, ())).1, ())).1, (v42 (a1, (v41 (a0, ())).1, ())).1, ())).2.2.1, ()) else none))
          else
            (bif (!(v42 (a0, (v41 (a1, ())).1, ())).2.1) then
              (bif ((k42 (a0, (v41 (a1, ())).1, ())) && ((k41 (a1, ())) && (tt 1 (k41 (a0, ()))))) then some (((0, (0, ())), (0, (0, ()))), ((0, (0, ())), (0, (0, ()))), false, ()) else none)
            else
              (bif ((k27 ((v42 (a0, (v41 (a1, ())).1, ())).1, a1, ())) && ((k42 (a0, (v41 (a1, ())).1, ())) && ((k41 (a1, ())) && (tt 1 (k41 (a0, ())))))) then some ((v27 ((v42 (a0, (v41 (a1, ())).1, ())).1, a1, ())).1, (v27 ((v42 (a0, (v41 (a1, ())).1, ())).1, a1, ())).2.1, (v27 ((v42 (a0, (v41 (a1, ())).1, ())).1, a1, ())).2.2.1, ()) else none)))
        else
          (bif (!(v42 (a0, (v41 (a1, ())).1, ())).2.1) then
            (bif ((k42 (a0, (v41 (a1, ())).1, ())) && ((k41 (a1, ())) && (tt 1 (k41 (a0, ()))))) then some (((0, (0, ())), (0, (0, ()))), ((0, (0, ())), (0, (0, ()))), false, ()) else none)
          else
            (bif ((k27 ((v42 (a0, (v41 (a1, ())).1, ())).1, a1, ())) && ((k42 (a0, (v41 (a1, ())).1, ())) && ((k41 (a1, ())) && (tt 1 (k41 (a0, ())))))) then some ((v27 ((v42 (a0, (v41 (a1, ())).1, ())).1, a1, ())).1, (v27 ((v42 (a0, (v41 (a1, ())).1, ())).1, a1, ())).2.1, (v27 ((v42 (a0, (v41 (a1, ())).1, ())).1, a1, ())).2.2.1, ()) else none)))
      else
        (bif (v41 (a0, ())).2.1 then
          (bif (!(v42 (a1, (v41 (a0, ())).1, ())).2.1) then
            (bif ((k42 (a1, (v41 (a0, ())).1, ())) && ((k41 (a1, ())) && (tt 1 (k41 (a0, ()))))) then some (((0, (0, ())), (0, (0, ()))), ((0, (0, ())), (0, (0, ()))), false, ()) else none)
          else
            (bif ((k27 (a0, (v42 (a1, (v41 (a0, ())).1, ())).1, ())) && ((k42 (a1, (v41 (a0, ())).1, ())) && ((k41 (a1, ())) && (tt 1 (k41 (a0, ())))))) then some ((v27 (a0, (v42 (a1, (v41 (a0, ())).1, ())).1, ())).1, (v27 (a0, (v42 (a1, (v41 (a0, ())).1, ())).1, ())).2.1, (v27 (a0, (v42 (a1, (v41 (a0, ())).1, ())).1, ())).2.2.1, ()) else none))
        else
          (bif ((k27 (a0, a1, ())) && ((k41 (a1, ())) && (tt 1 (k41 (a0, ()))))) then some ((v27 (a0, a1, ())).1, (v27 (a0, a1, ())).2.1, (v27 (a0, a1, ())).2.2.1, ()) else none))))
  else
    (bif (v41 (a1, ())).2.1 then
      (bif (v42 (a0, (v41 (a1, ())).1, ())).2.1 then
        (bif (v41 (a0, ())).2.1 then
          (bif (!(v42 (a1, (v41 (a0, ())).1, ())).2.1) then
            (bif ((k42 (a1, (v41 (a0, ())).1, ())) && ((k42 (a0, (v41 (a1, ())).1, ())) && ((k41 (a1, ())) && (tt 1 (k41 (a0, ())))))) then some (((0, (0, ())), (0, (0, ()))), ((0, (0, ())), (0, (0, ()))), false, ()) else none)
          else
            (bif ((k27 ((v42 (a0, (v41 (a1, ())).1, ())).1, (v42 (a1, (v41 (a0, ())).1, ())).1, ())) && ((k42 (a1, (v41 (a0, ())).1, ())) && ((k42 (a0, (v41 (a1, ())).1, ())) && ((k41 (a1, ())) && (tt 1 (k41 (a0, ()))))))) then some ((v27 ((v42 (a0, (v41 (a1, ())).1, ())).1, (v42 (a1, (v41 (a0, ())).1, ())).1, ())).1, (v27 ((v42 (a0, (v41 (a1, ())).1, ())).1, (v42 (a1, (v41 (a0, ())).1, ())).1, ())).2.1, (v27 ((v42 (a0, (v41 (a1, ())).1, ())).1, (v42 (a1, (v41 (a0, ())).1, ())).1, ())).2.2.1, ()) else none))
        else
          (bif (!(v42 (a0, (v41 (a1, ())).1, ())).2.1) then
            (bif ((k42 (a0, (v41 (a1, ())).1, ())) && ((k41 (a1, ())) && (tt 1 (k41 (a0, ()))))) then some (((0, (0, ())), (0, (0, ()))), ((0, (0, ())), (0, (0, ()))), false, ()) else none)
          else
            (bif ((k27 ((v42 (a0, (v41 (a1, ())).1, ())).1, a1, ())) && ((k42 (a0, (v41 (a1, ())).1, ())) && ((k41 (a1, ())) && (tt 1 (k41 (a0, ())))))) then some ((v27 ((v42 (a0, (v41 (a1, ())).1, ())).1, a1, ())).1, (v27 ((v42 (a0, (v41 (a1, ())).1, ())).1, a1, ())).2.1, (v27 ((v42 (a0, (v41 (a1, ())).1, ())).1, a1, ())).2.2.1, ()) else none)))
      else
        (bif (!(v42 (a0, (v41 (a1, ())).1, ())).2.1) then
          (bif ((k42 (a0, (v41 (a1, ())).1, ())) && ((k41 (a1, ())) && (tt 1 (k41 (a0, ()))))) then some (((0, (0, ())), (0, (0, ()))), ((0, (0, ())), (0, (0, ()))), false, ()) else none)
        else
          (bif ((k27 ((v42 (a0, (v41 (a1, ())).1, ())).1, a1, ())) && ((k42 (a0, (v41 (a1, ())).1, ())) && ((k41 (a1, ())) && (tt 1 (k41 (a0, ())))))) then some ((v27 ((v42 (a0, (v41 (a1, ())).1, ())).1, a1, ())).1, (v27 ((v42 (a0, (v41 (a1, ())).1, ())).1, a1, ())).2.1, (v27 ((v42 (a0, (v41 (a1, ())).1, ())).1, a1, ())).2.2.1, ()) else none)))
    else
      (bif (v41 (a0, ())).2.1 then
        (bif (!(v42 (a1, (v41 (a0, ())).1, ())).2.1) then
          (bif ((k42 (a1, (v41 (a0, ())).1, ())) && ((k41 (a1, ())) && (tt 1 (k41 (a0, ()))))) then some (((0, (0, ())), (0, (0, ()))), ((0, (0, ())), (0, (0, ()))), false, ()) else none)
        else
          (bif ((k27 (a0, (v42 (a1, (v41 (a0, ())).1, ())).1, ())) && ((k42 (a1, (v41 (a0, ())).1, ())) && ((k41 (a1, ())) && (tt 1 (k41 (a0, ())))))) then some ((v27 (a0, (v42 (a1, (v41 (a0, ())).1, ())).1, ())).1, (v27 (a0, (v42 (a1, (v41 (a0, ())).1, ())).1, ())).2.1, (v27 (a0, (v42 (a1, (v41 (a0, ())).1, ())).1, ())).2.2.1, ()) else none))
      else
        (bif ((k27 (a0, a1, ())) && ((k41 (a1, ())) && (tt 1 (k41 (a0, ()))))) then some ((v27 (a0, a1, ())).1, (v27 (a0, a1, ())).2.1, (v27 (a0, a1, ())).2.2.1, ()) else none))))
theorem t28 (v27 : (KD0 × KD0 × Unit) → KD7) (k27 : (KD0 × KD0 × Unit) → Bool) (v41 : (KD0 × Unit) → (Int × (Bool × Unit))) (k41 : (KD0 × Unit) → Bool) (v42 : (KD0 × Int × Unit) → (KD0 × (Bool × Unit))) (k42 : (KD0 × Int × Unit) → Bool) (a0 : KD0) (a1 : KD0) : fnT (CxL Try.Θ (kOf [(27, sm [KT4, KT4] (.tup KT4 KT5) v27 k27), (41, sm [KT4] KT6 v41 k41), (42, sm [KT4, (.int .u64)] KT5 v42 k42)]) (lOf [])) Try.f28 (.tup KT4 KT5) [⟨KT4, a0⟩, ⟨KT4, a1⟩] = S28 v27 k27 v41 k41 v42 k42 a0 a1 := by kernel_rfl
noncomputable def S29 (v27 : (KD0 × KD0 × Unit) → KD7) (k27 : (KD0 × KD0 × Unit) → Bool) (a0 : KD0) (a1 : KD0) (a2 : Bool) : Option KD7 :=
  (bif a2 then
    (bif (decide (a1.2.1 = 18446744073709551615)) then
      some (((0, (0, ())), (0, (0, ()))), ((0, (0, ())), (0, (0, ()))), false, ())
    else
      (bif (decide (a0.2.2.1 = 0)) then
        some (((0, (0, ())), (0, (0, ()))), ((0, (0, ())), (0, (0, ()))), false, ())
      else
        (bif (tt 1 (k27 ((a0.1, ((if (IntKind.wrap .u64 (a1.2.1 + 1)) > a0.2.1 then (IntKind.wrap .u64 (a1.2.1 + 1)) else a0.2.1), a0.2.2)), (a1.1, (a1.2.1, ((if (IntKind.wrap .u64 (a0.2.2.1 - 1)) < a1.2.2.1 then (IntKind.wrap .u64 (a0.2.2.1 - 1)) else a1.2.2.1), a1.2.2.2))), ()))) then some ((v27 ((a0.1, ((if (IntKind.wrap .u64 (a1.2.1 + 1)) > a0.2.1 then (IntKind.wrap .u64 (a1.2.1 + 1)) else a0.2.1), a0.2.2)), (a1.1, (a1.2.1, ((if (IntKind.wrap .u64 (a0.2.2.1 - 1)) < a1.2.2.1 then (IntKind.wrap .u64 (a0.2.2.1 - 1)) else a1.2.2.1), a1.2.2.2))), ())).1, (v27 ((a0.1, ((if (IntKind.wrap .u64 (a1.2.1 + 1)) > a0.2.1 then (IntKind.wrap .u64 (a1.2.1 + 1)) else a0.2.1), a0.2.2)), (a1.1, (a1.2.1, ((if (IntKind.wrap .u64 (a0.2.2.1 - 1)) < a1.2.2.1 then (IntKind.wrap .u64 (a0.2.2.1 - 1)) else a1.2.2.1), a1.2.2.2))), ())).2.1, (v27 ((a0.1, ((if (IntKind.wrap .u64 (a1.2.1 + 1)) > a0.2.1 then (IntKind.wrap .u64 (a1.2.1 + 1)) else a0.2.1), a0.2.2)), (a1.1, (a1.2.1, ((if (IntKind.wrap .u64 (a0.2.2.1 - 1)) < a1.2.2.1 then (IntKind.wrap .u64 (a0.2.2.1 - 1)) else a1.2.2.1), a1.2.2.2))), ())).2.2.1, ()) else none)))
  else
    (bif (tt 1 (k27 ((a0.1, ((if (IntKind.wrap .u64 (a1.2.1 + 0)) > a0.2.1 then (IntKind.wrap .u64 (a1.2.1 + 0)) else a0.2.1), a0.2.2)), (a1.1, (a1.2.1, ((if (IntKind.wrap .u64 (a0.2.2.1 - 0)) < a1.2.2.1 then (IntKind.wrap .u64 (a0.2.2.1 - 0)) else a1.2.2.1), a1.2.2.2))), ()))) then some ((v27 ((a0.1, ((if (IntKind.wrap .u64 (a1.2.1 + 0)) > a0.2.1 then (IntKind.wrap .u64 (a1.2.1 + 0)) else a0.2.1), a0.2.2)), (a1.1, (a1.2.1, ((if (IntKind.wrap .u64 (a0.2.2.1 - 0)) < a1.2.2.1 then (IntKind.wrap .u64 (a0.2.2.1 - 0)) else a1.2.2.1), a1.2.2.2))), ())).1, (v27 ((a0.1, ((if (IntKind.wrap .u64 (a1.2.1 + 0)) > a0.2.1 then (IntKind.wrap .u64 (a1.2.1 + 0)) else a0.2.1), a0.2.2)), (a1.1, (a1.2.1, ((if (IntKind.wrap .u64 (a0.2.2.1 - 0)) < a1.2.2.1 then (IntKind.wrap .u64 (a0.2.2.1 - 0)) else a1.2.2.1), a1.2.2.2))), ())).2.1, (v27 ((a0.1, ((if (IntKind.wrap .u64 (a1.2.1 + 0)) > a0.2.1 then (IntKind.wrap .u64 (a1.2.1 + 0)) else a0.2.1), a0.2.2)), (a1.1, (a1.2.1, ((if (IntKind.wrap .u64 (a0.2.2.1 - 0)) < a1.2.2.1 then (IntKind.wrap .u64 (a0.2.2.1 - 0)) else a1.2.2.1), a1.2.2.2))), ())).2.2.1, ()) else none))
theorem t29 (v27 : (KD0 × KD0 × Unit) → KD7) (k27 : (KD0 × KD0 × Unit) → Bool) (a0 : KD0) (a1 : KD0) (a2 : Bool) : fnT (CxL Try.Θ (kOf [(27, sm [KT4, KT4] (.tup KT4 KT5) v27 k27)]) (lOf [])) Try.f29 (.tup KT4 KT5) [⟨KT4, a0⟩, ⟨KT4, a1⟩, ⟨.bool, a2⟩] = S29 v27 k27 a0 a1 a2 := by kernel_rfl
noncomputable def S30  (a0 : KD0) (a1 : KD0) (a2 : Bool) : Option KD7 :=
  some (a1, a0, a2, ())
theorem t30  (a0 : KD0) (a1 : KD0) (a2 : Bool) : fnT (CxL Try.Θ (kOf []) (lOf [])) Try.f30 (.tup KT4 KT5) [⟨KT4, a0⟩, ⟨KT4, a1⟩, ⟨.bool, a2⟩] = S30  a0 a1 a2 := by kernel_rfl
noncomputable def S31 (v27 : (KD0 × KD0 × Unit) → KD7) (k27 : (KD0 × KD0 × Unit) → Bool) (v41 : (KD0 × Unit) → (Int × (Bool × Unit))) (k41 : (KD0 × Unit) → Bool) (a0 : KD0) (a1 : KD0) (a2 : Bool) : Option KD7 :=
  (bif a2 then
    (bif (decide ((iand .u64 (ior .u64 a0.1.1 a0.1.2.1) (ior .u64 a1.1.1 a1.1.2.1)) = 0)) then
      (bif (tt 1 (k41 (a1, ()))) then some (((0, (0, ())), (0, (0, ()))), ((0, (0, ())), (0, (0, ()))), false, ()) else none)
    else
      (bif (v41 (a1, ())).2.1 then
        (bif (!(decide ((v41 (a1, ())).1 = 0))) then
          (bif (decide ((iand .u64 (v41 (a1, ())).1 (IntKind.wrap .u64 ((v41 (a1, ())).1 - 1))) = 0)) then
            (bif ((k27 ((((ior .u64 a0.1.1 (v41 (a1, ())).1), ((iandn .u64 a0.1.2.1 (v41 (a1, ())).1), ())), a0.2), a1, ())) && (tt 1 (k41 (a1, ())))) then some ((v27 ((((ior .u64 a0.1.1 (v41 (a1, ())).1), ((iandn .u64 a0.1.2.1 (v41 (a1, ())).1), ())), a0.2), a1, ())).1, (v27 ((((ior .u64 a0.1.1 (v41 (a1, ())).1), ((iandn .u64 a0.1.2.1 (v41 (a1, ())).1), ())), a0.2), a1, ())).2.1, (v27 ((((ior .u64 a0.1.1 (v41 (a1, ())).1), ((iandn .u64 a0.1.2.1 (v41 (a1, ())).1), ())), a0.2), a1, ())).2.2.1, ()) else none)
          else
            (bif ((k27 (a0, a1, ())) && (tt 1 (k41 (a1, ())))) then some ((v27 (a0, a1, ())).1, (v27 (a0, a1, ())).2.1, (v27 (a0, a1, ())).2.2.1, ()) else none))
        else
          (bif ((k27 (a0, a1, ())) && (tt 1 (k41 (a1, ())))) then some ((v27 (a0, a1, ())).1, (v27 (a0, a1, ())).2.1, (v27 (a0, a1, ())).2.2.1, ()) else none))
      else
        (bif ((k27 (a0, a1, ())) && (tt 1 (k41 (a1, ())))) then some ((v27 (a0, a1, ())).1, (v27 (a0, a1, ())).2.1, (v27 (a0, a1, ())).2.2.1, ()) else none)))
  else
    (bif (!(decide ((iand .u64 a0.1.1 a1.1.1) = 0))) then
      (bif (tt 1 (k41 (a1, ()))) then some (((0, (0, ())), (0, (0, ()))), ((0, (0, ())), (0, (0, ()))), false, ()) else none)
    else
      (bif (v41 (a1, ())).2.1 then
        (bif ((k27 (((a0.1.1, ((iandn .u64 a0.1.2.1 (v41 (a1, ())).1), ())), a0.2), a1, ())) && (tt 1 (k41 (a1, ())))) then some ((v27 (((a0.1.1, ((iandn .u64 a0.1.2.1 (v41 (a1, ())).1), ())), a0.2), a1, ())).1, (v27 (((a0.1.1, ((iandn .u64 a0.1.2.1 (v41 (a1, ())).1), ())), a0.2), a1, ())).2.1, (v27 (((a0.1.1, ((iandn .u64 a0.1.2.1 (v41 (a1, ())).1), ())), a0.2), a1, ())).2.2.1, ()) else none)
      else
        (bif ((k27 (a0, a1, ())) && (tt 1 (k41 (a1, ())))) then some ((v27 (a0, a1, ())).1, (v27 (a0, a1, ())).2.1, (v27 (a0, a1, ())).2.2.1, ()) else none))))
theorem t31 (v27 : (KD0 × KD0 × Unit) → KD7) (k27 : (KD0 × KD0 × Unit) → Bool) (v41 : (KD0 × Unit) → (Int × (Bool × Unit))) (k41 : (KD0 × Unit) → Bool) (a0 : KD0) (a1 : KD0) (a2 : Bool) : fnT (CxL Try.Θ (kOf [(27, sm [KT4, KT4] (.tup KT4 KT5) v27 k27), (41, sm [KT4] KT6 v41 k41)]) (lOf [])) Try.f31 (.tup KT4 KT5) [⟨KT4, a0⟩, ⟨KT4, a1⟩, ⟨.bool, a2⟩] = S31 v27 k27 v41 k41 a0 a1 a2 := by kernel_rfl
noncomputable def S9_16 (k13 : (Int × Unit) → Bool) (v26 : ((Int × (Int × Unit)) × (Int × (Int × Unit)) × Unit) → KD2) (k26 : ((Int × (Int × Unit)) × (Int × (Int × Unit)) × Unit) → Bool) (v27 : (KD0 × KD0 × Unit) → KD7) (k27 : (KD0 × KD0 × Unit) → Bool) (a1 : Bool) (a2 : KD0) (a3 : KD0) : Option KD7 :=
  (bif (!a1) then
    (bif (decide (a2.2.2.1 ≥ 4294967296)) then
      (bif (tt 1 (k13 (16, ()))) then some (a2, a3, true, ()) else none)
    else
      (bif (decide (a3.2.2.1 ≥ 4294967296)) then
        (bif (tt 1 (k13 (16, ()))) then some (a2, a3, true, ()) else none)
      else
        (bif (!a1) then
          (bif (!(v26 (a2.1, a3.1, ())).2.1) then
            (bif ((k26 (a2.1, a3.1, ())) && (tt 1 (k13 (16, ())))) then some (((0, (0, ())), (0, (0, ()))), ((0, (0, ())), (0, (0, ()))), false, ()) else none)
          else
            (bif ((k27 (((v26 (a2.1, a3.1, ())).1, ((if a3.2.1 > a2.2.1 then a3.2.1 else a2.2.1), ((if a3.2.2.1 < a2.2.2.1 then a3.2.2.1 else a2.2.2.1), ()))), ((v26 (a2.1, a3.1, ())).1, ((if a3.2.1 > a2.2.1 then a3.2.1 else a2.2.1), ((if a3.2.2.1 < a2.2.2.1 then a3.2.2.1 else a2.2.2.1), ()))), ())) && ((k26 (a2.1, a3.1, ())) && (tt 1 (k13 (16, ()))))) then some ((v27 (((v26 (a2.1, a3.1, ())).1, ((if a3.2.1 > a2.2.1 then a3.2.1 else a2.2.1), ((if a3.2.2.1 < a2.2.2.1 then a3.2.2.1 else a2.2.2.1), ()))), ((v26 (a2.1, a3.1, ())).1, ((if a3.2.1 > a2.2.1 then a3.2.1 else a2.2.1), ((if a3.2.2.1 < a2.2.2.1 then a3.2.2.1 else a2.2.2.1), ()))), ())).1, (v27 (((v26 (a2.1, a3.1, ())).1, ((if a3.2.1 > a2.2.1 then a3.2.1 else a2.2.1), ((if a3.2.2.1 < a2.2.2.1 then a3.2.2.1 else a2.2.2.1), ()))), ((v26 (a2.1, a3.1, ())).1, ((if a3.2.1 > a2.2.1 then a3.2.1 else a2.2.1), ((if a3.2.2.1 < a2.2.2.1 then a3.2.2.1 else a2.2.2.1), ()))), ())).2.1, (v27 (((v26 (a2.1, a3.1, ())).1, ((if a3.2.1 > a2.2.1 then a3.2.1 else a2.2.1), ((if a3.2.2.1 < a2.2.2.1 then a3.2.2.1 else a2.2.2.1), ()))), ((v26 (a2.1, a3.1, ())).1, ((if a3.2.1 > a2.2.1 then a3.2.1 else a2.2.1), ((if a3.2.2.1 < a2.2.2.1 then a3.2.2.1 else a2.2.2.1), ()))), ())).2.2.1, ()) else none))
        else
          (bif (!(v26 (a2.1, a3.1, ())).2.1) then
            (bif ((k26 (a2.1, a3.1, ())) && (tt 1 (k13 (16, ())))) then some (((0, (0, ())), (0, (0, ()))), ((0, (0, ())), (0, (0, ()))), false, ()) else none)
          else
            (bif ((k27 (((v26 (a2.1, a3.1, ())).1, ((if a3.2.1 > a2.2.1 then a3.2.1 else a2.2.1), ((if a3.2.2.1 < a2.2.2.1 then a3.2.2.1 else a2.2.2.1), ()))), ((v26 (a2.1, a3.1, ())).1, ((if a3.2.1 > a2.2.1 then a3.2.1 else a2.2.1), ((if a3.2.2.1 < a2.2.2.1 then a3.2.2.1 else a2.2.2.1), ()))), ())) && ((k26 (a2.1, a3.1, ())) && (tt 1 (k13 (16, ()))))) then some ((v27 (((v26 (a2.1, a3.1, ())).1, ((if a3.2.1 > a2.2.1 then a3.2.1 else a2.2.1), ((if a3.2.2.1 < a2.2.2.1 then a3.2.2.1 else a2.2.2.1), ()))), ((v26 (a2.1, a3.1, ())).1, ((if a3.2.1 > a2.2.1 then a3.2.1 else a2.2.1), ((if a3.2.2.1 < a2.2.2.1 then a3.2.2.1 else a2.2.2.1), ()))), ())).1, (v27 (((v26 (a2.1, a3.1, ())).1, ((if a3.2.1 > a2.2.1 then a3.2.1 else a2.2.1), ((if a3.2.2.1 < a2.2.2.1 then a3.2.2.1 else a2.2.2.1), ()))), ((v26 (a2.1, a3.1, ())).1, ((if a3.2.1 > a2.2.1 then a3.2.1 else a2.2.1), ((if a3.2.2.1 < a2.2.2.1 then a3.2.2.1 else a2.2.2.1), ()))), ())).2.1, (v27 (((v26 (a2.1, a3.1, ())).1, ((if a3.2.1 > a2.2.1 then a3.2.1 else a2.2.1), ((if a3.2.2.1 < a2.2.2.1 then a3.2.2.1 else a2.2.2.1), ()))), ((v26 (a2.1, a3.1, ())).1, ((if a3.2.1 > a2.2.1 then a3.2.1 else a2.2.1), ((if a3.2.2.1 < a2.2.2.1 then a3.2.2.1 else a2.2.2.1), ()))), ())).2.2.1, ()) else none)))))
  else
    (bif (!a1) then
      (bif (!(v26 (a2.1, a3.1, ())).2.1) then
        (bif ((k26 (a2.1, a3.1, ())) && (tt 1 (k13 (16, ())))) then some (((0, (0, ())), (0, (0, ()))), ((0, (0, ())), (0, (0, ()))), false, ()) else none)
      else
        (bif ((k27 (((v26 (a2.1, a3.1, ())).1, ((if a3.2.1 > a2.2.1 then a3.2.1 else a2.2.1), ((if a3.2.2.1 < a2.2.2.1 then a3.2.2.1 else a2.2.2.1), ()))), ((v26 (a2.1, a3.1, ())).1, ((if a3.2.1 > a2.2.1 then a3.2.1 else a2.2.1), ((if a3.2.2.1 < a2.2.2.1 then a3.2.2.1 else a2.2.2.1), ()))), ())) && ((k26 (a2.1, a3.1, ())) && (tt 1 (k13 (16, ()))))) then some ((v27 (((v26 (a2.1, a3.1, ())).1, ((if a3.2.1 > a2.2.1 then a3.2.1 else a2.2.1), ((if a3.2.2.1 < a2.2.2.1 then a3.2.2.1 else a2.2.2.1), ()))), ((v26 (a2.1, a3.1, ())).1, ((if a3.2.1 > a2.2.1 then a3.2.1 else a2.2.1), ((if a3.2.2.1 < a2.2.2.1 then a3.2.2.1 else a2.2.2.1), ()))), ())).1, (v27 (((v26 (a2.1, a3.1, ())).1, ((if a3.2.1 > a2.2.1 then a3.2.1 else a2.2.1), ((if a3.2.2.1 < a2.2.2.1 then a3.2.2.1 else a2.2.2.1), ()))), ((v26 (a2.1, a3.1, ())).1, ((if a3.2.1 > a2.2.1 then a3.2.1 else a2.2.1), ((if a3.2.2.1 < a2.2.2.1 then a3.2.2.1 else a2.2.2.1), ()))), ())).2.1, (v27 (((v26 (a2.1, a3.1, ())).1, ((if a3.2.1 > a2.2.1 then a3.2.1 else a2.2.1), ((if a3.2.2.1 < a2.2.2.1 then a3.2.2.1 else a2.2.2.1), ()))), ((v26 (a2.1, a3.1, ())).1, ((if a3.2.1 > a2.2.1 then a3.2.1 else a2.2.1), ((if a3.2.2.1 < a2.2.2.1 then a3.2.2.1 else a2.2.2.1), ()))), ())).2.2.1, ()) else none))
    else
      (bif (!(v26 (a2.1, a3.1, ())).2.1) then
        (bif ((k26 (a2.1, a3.1, ())) && (tt 1 (k13 (16, ())))) then some (((0, (0, ())), (0, (0, ()))), ((0, (0, ())), (0, (0, ()))), false, ()) else none)
      else
        (bif ((k27 (((v26 (a2.1, a3.1, ())).1, ((if a3.2.1 > a2.2.1 then a3.2.1 else a2.2.1), ((if a3.2.2.1 < a2.2.2.1 then a3.2.2.1 else a2.2.2.1), ()))), ((v26 (a2.1, a3.1, ())).1, ((if a3.2.1 > a2.2.1 then a3.2.1 else a2.2.1), ((if a3.2.2.1 < a2.2.2.1 then a3.2.2.1 else a2.2.2.1), ()))), ())) && ((k26 (a2.1, a3.1, ())) && (tt 1 (k13 (16, ()))))) then some ((v27 (((v26 (a2.1, a3.1, ())).1, ((if a3.2.1 > a2.2.1 then a3.2.1 else a2.2.1), ((if a3.2.2.1 < a2.2.2.1 then a3.2.2.1 else a2.2.2.1), ()))), ((v26 (a2.1, a3.1, ())).1, ((if a3.2.1 > a2.2.1 then a3.2.1 else a2.2.1), ((if a3.2.2.1 < a2.2.2.1 then a3.2.2.1 else a2.2.2.1), ()))), ())).1, (v27 (((v26 (a2.1, a3.1, ())).1, ((if a3.2.1 > a2.2.1 then a3.2.1 else a2.2.1), ((if a3.2.2.1 < a2.2.2.1 then a3.2.2.1 else a2.2.2.1), ()))), ((v26 (a2.1, a3.1, ())).1, ((if a3.2.1 > a2.2.1 then a3.2.1 else a2.2.1), ((if a3.2.2.1 < a2.2.2.1 then a3.2.2.1 else a2.2.2.1), ()))), ())).2.1, (v27 (((v26 (a2.1, a3.1, ())).1, ((if a3.2.1 > a2.2.1 then a3.2.1 else a2.2.1), ((if a3.2.2.1 < a2.2.2.1 then a3.2.2.1 else a2.2.2.1), ()))), ((v26 (a2.1, a3.1, ())).1, ((if a3.2.1 > a2.2.1 then a3.2.1 else a2.2.1), ((if a3.2.2.1 < a2.2.2.1 then a3.2.2.1 else a2.2.2.1), ()))), ())).2.2.1, ()) else none))))
theorem t9_16 (k13 : (Int × Unit) → Bool) (v26 : ((Int × (Int × Unit)) × (Int × (Int × Unit)) × Unit) → KD2) (k26 : ((Int × (Int × Unit)) × (Int × (Int × Unit)) × Unit) → Bool) (v27 : (KD0 × KD0 × Unit) → KD7) (k27 : (KD0 × KD0 × Unit) → Bool) (a1 : Bool) (a2 : KD0) (a3 : KD0) : fnT (CxL Try.Θ (kOf [(13, sm [(.int .i64)] (.int .i64) (fun _ => 80) k13), (26, sm [(.pair (.int .u64) KT1), (.pair (.int .u64) KT1)] KT3 v26 k26), (27, sm [KT4, KT4] (.tup KT4 KT5) v27 k27)]) (lOf [])) Try.f9 (.tup KT4 KT5) [⟨(.int .i64), 16⟩, ⟨.bool, a1⟩, ⟨KT4, a2⟩, ⟨KT4, a3⟩] = S9_16 k13 v26 k26 v27 k27 a1 a2 a3 := by kernel_rfl
noncomputable def S9_32 (k13 : (Int × Unit) → Bool) (v29 : (KD0 × KD0 × Bool × Unit) → KD7) (k29 : (KD0 × KD0 × Bool × Unit) → Bool) (a1 : Bool) (a2 : KD0) (a3 : KD0) : Option KD7 :=
  (bif (!a1) then
    (bif (decide (a2.2.2.1 ≥ 4294967296)) then
      (bif (tt 1 (k13 (32, ()))) then some (a2, a3, true, ()) else none)
    else
      (bif (decide (a3.2.2.1 ≥ 4294967296)) then
        (bif (tt 1 (k13 (32, ()))) then some (a2, a3, true, ()) else none)
      else
        (bif (!a1) then
          (bif ((k29 (a2, a3, true, ())) && (tt 1 (k13 (32, ())))) then some ((v29 (a2, a3, true, ())).1, (v29 (a2, a3, true, ())).2.1, (v29 (a2, a3, true, ())).2.2.1, ()) else none)
        else
          (bif ((k29 (a2, a3, true, ())) && (tt 1 (k13 (32, ())))) then some ((v29 (a2, a3, true, ())).1, (v29 (a2, a3, true, ())).2.1, (v29 (a2, a3, true, ())).2.2.1, ()) else none))))
  else
    (bif (!a1) then
      (bif ((k29 (a2, a3, true, ())) && (tt 1 (k13 (32, ())))) then some ((v29 (a2, a3, true, ())).1, (v29 (a2, a3, true, ())).2.1, (v29 (a2, a3, true, ())).2.2.1, ()) else none)
    else
      (bif ((k29 (a2, a3, true, ())) && (tt 1 (k13 (32, ())))) then some ((v29 (a2, a3, true, ())).1, (v29 (a2, a3, true, ())).2.1, (v29 (a2, a3, true, ())).2.2.1, ()) else none)))
theorem t9_32 (k13 : (Int × Unit) → Bool) (v29 : (KD0 × KD0 × Bool × Unit) → KD7) (k29 : (KD0 × KD0 × Bool × Unit) → Bool) (a1 : Bool) (a2 : KD0) (a3 : KD0) : fnT (CxL Try.Θ (kOf [(13, sm [(.int .i64)] (.int .i64) (fun _ => 176) k13), (29, sm [KT4, KT4, .bool] (.tup KT4 KT5) v29 k29)]) (lOf [])) Try.f9 (.tup KT4 KT5) [⟨(.int .i64), 32⟩, ⟨.bool, a1⟩, ⟨KT4, a2⟩, ⟨KT4, a3⟩] = S9_32 k13 v29 k29 a1 a2 a3 := by kernel_rfl
noncomputable def S9_48 (k13 : (Int × Unit) → Bool) (v29 : (KD0 × KD0 × Bool × Unit) → KD7) (k29 : (KD0 × KD0 × Bool × Unit) → Bool) (a1 : Bool) (a2 : KD0) (a3 : KD0) : Option KD7 :=
  (bif (!a1) then
    (bif (decide (a2.2.2.1 ≥ 4294967296)) then
      (bif (tt 1 (k13 (48, ()))) then some (a2, a3, true, ()) else none)
    else
      (bif (decide (a3.2.2.1 ≥ 4294967296)) then
        (bif (tt 1 (k13 (48, ()))) then some (a2, a3, true, ()) else none)
      else
        (bif (!a1) then
          (bif ((k29 (a2, a3, false, ())) && (tt 1 (k13 (48, ())))) then some ((v29 (a2, a3, false, ())).1, (v29 (a2, a3, false, ())).2.1, (v29 (a2, a3, false, ())).2.2.1, ()) else none)
        else
          (bif ((k29 (a2, a3, false, ())) && (tt 1 (k13 (48, ())))) then some ((v29 (a2, a3, false, ())).1, (v29 (a2, a3, false, ())).2.1, (v29 (a2, a3, false, ())).2.2.1, ()) else none))))
  else
    (bif (!a1) then
      (bif ((k29 (a2, a3, false, ())) && (tt 1 (k13 (48, ())))) then some ((v29 (a2, a3, false, ())).1, (v29 (a2, a3, false, ())).2.1, (v29 (a2, a3, false, ())).2.2.1, ()) else none)
    else
      (bif ((k29 (a2, a3, false, ())) && (tt 1 (k13 (48, ())))) then some ((v29 (a2, a3, false, ())).1, (v29 (a2, a3, false, ())).2.1, (v29 (a2, a3, false, ())).2.2.1, ()) else none)))
theorem t9_48 (k13 : (Int × Unit) → Bool) (v29 : (KD0 × KD0 × Bool × Unit) → KD7) (k29 : (KD0 × KD0 × Bool × Unit) → Bool) (a1 : Bool) (a2 : KD0) (a3 : KD0) : fnT (CxL Try.Θ (kOf [(13, sm [(.int .i64)] (.int .i64) (fun _ => 160) k13), (29, sm [KT4, KT4, .bool] (.tup KT4 KT5) v29 k29)]) (lOf [])) Try.f9 (.tup KT4 KT5) [⟨(.int .i64), 48⟩, ⟨.bool, a1⟩, ⟨KT4, a2⟩, ⟨KT4, a3⟩] = S9_48 k13 v29 k29 a1 a2 a3 := by kernel_rfl
noncomputable def S9_64 (k13 : (Int × Unit) → Bool) (v31 : (KD0 × KD0 × Bool × Unit) → KD7) (k31 : (KD0 × KD0 × Bool × Unit) → Bool) (a1 : Bool) (a2 : KD0) (a3 : KD0) : Option KD7 :=
  (bif (!a1) then
    (bif (decide (a2.2.2.1 ≥ 4294967296)) then
      (bif (tt 1 (k13 (64, ()))) then some (a2, a3, true, ()) else none)
    else
      (bif (decide (a3.2.2.1 ≥ 4294967296)) then
        (bif (tt 1 (k13 (64, ()))) then some (a2, a3, true, ()) else none)
      else
        (bif (!a1) then
          (bif ((k31 (a2, a3, true, ())) && (tt 1 (k13 (64, ())))) then some ((v31 (a2, a3, true, ())).1, (v31 (a2, a3, true, ())).2.1, (v31 (a2, a3, true, ())).2.2.1, ()) else none)
        else
          (bif ((k31 (a2, a3, true, ())) && (tt 1 (k13 (64, ())))) then some ((v31 (a2, a3, true, ())).1, (v31 (a2, a3, true, ())).2.1, (v31 (a2, a3, true, ())).2.2.1, ()) else none))))
  else
    (bif (!a1) then
      (bif ((k31 (a2, a3, true, ())) && (tt 1 (k13 (64, ())))) then some ((v31 (a2, a3, true, ())).1, (v31 (a2, a3, true, ())).2.1, (v31 (a2, a3, true, ())).2.2.1, ()) else none)
    else
      (bif ((k31 (a2, a3, true, ())) && (tt 1 (k13 (64, ())))) then some ((v31 (a2, a3, true, ())).1, (v31 (a2, a3, true, ())).2.1, (v31 (a2, a3, true, ())).2.2.1, ()) else none)))
theorem t9_64 (k13 : (Int × Unit) → Bool) (v31 : (KD0 × KD0 × Bool × Unit) → KD7) (k31 : (KD0 × KD0 × Bool × Unit) → Bool) (a1 : Bool) (a2 : KD0) (a3 : KD0) : fnT (CxL Try.Θ (kOf [(13, sm [(.int .i64)] (.int .i64) (fun _ => 68) k13), (31, sm [KT4, KT4, .bool] (.tup KT4 KT5) v31 k31)]) (lOf [])) Try.f9 (.tup KT4 KT5) [⟨(.int .i64), 64⟩, ⟨.bool, a1⟩, ⟨KT4, a2⟩, ⟨KT4, a3⟩] = S9_64 k13 v31 k31 a1 a2 a3 := by kernel_rfl
noncomputable def S9_68 (k13 : (Int × Unit) → Bool) (v31 : (KD0 × KD0 × Bool × Unit) → KD7) (k31 : (KD0 × KD0 × Bool × Unit) → Bool) (a1 : Bool) (a2 : KD0) (a3 : KD0) : Option KD7 :=
  (bif (!a1) then
    (bif (decide (a2.2.2.1 ≥ 4294967296)) then
      (bif (tt 1 (k13 (68, ()))) then some (a2, a3, true, ()) else none)
    else
      (bif (decide (a3.2.2.1 ≥ 4294967296)) then
        (bif (tt 1 (k13 (68, ()))) then some (a2, a3, true, ()) else none)
      else
        (bif (!a1) then
          (bif ((k31 (a2, a3, false, ())) && (tt 1 (k13 (68, ())))) then some ((v31 (a2, a3, false, ())).1, (v31 (a2, a3, false, ())).2.1, (v31 (a2, a3, false, ())).2.2.1, ()) else none)
        else
          (bif ((k31 (a2, a3, false, ())) && (tt 1 (k13 (68, ())))) then some ((v31 (a2, a3, false, ())).1, (v31 (a2, a3, false, ())).2.1, (v31 (a2, a3, false, ())).2.2.1, ()) else none))))
  else
    (bif (!a1) then
      (bif ((k31 (a2, a3, false, ())) && (tt 1 (k13 (68, ())))) then some ((v31 (a2, a3, false, ())).1, (v31 (a2, a3, false, ())).2.1, (v31 (a2, a3, false, ())).2.2.1, ()) else none)
    else
      (bif ((k31 (a2, a3, false, ())) && (tt 1 (k13 (68, ())))) then some ((v31 (a2, a3, false, ())).1, (v31 (a2, a3, false, ())).2.1, (v31 (a2, a3, false, ())).2.2.1, ()) else none)))
theorem t9_68 (k13 : (Int × Unit) → Bool) (v31 : (KD0 × KD0 × Bool × Unit) → KD7) (k31 : (KD0 × KD0 × Bool × Unit) → Bool) (a1 : Bool) (a2 : KD0) (a3 : KD0) : fnT (CxL Try.Θ (kOf [(13, sm [(.int .i64)] (.int .i64) (fun _ => 64) k13), (31, sm [KT4, KT4, .bool] (.tup KT4 KT5) v31 k31)]) (lOf [])) Try.f9 (.tup KT4 KT5) [⟨(.int .i64), 68⟩, ⟨.bool, a1⟩, ⟨KT4, a2⟩, ⟨KT4, a3⟩] = S9_68 k13 v31 k31 a1 a2 a3 := by kernel_rfl
noncomputable def S9_80 (k13 : (Int × Unit) → Bool) (v28 : (KD0 × KD0 × Unit) → KD7) (k28 : (KD0 × KD0 × Unit) → Bool) (a1 : Bool) (a2 : KD0) (a3 : KD0) : Option KD7 :=
  (bif (!a1) then
    (bif (decide (a2.2.2.1 ≥ 4294967296)) then
      (bif (tt 1 (k13 (80, ()))) then some (a2, a3, true, ()) else none)
    else
      (bif (decide (a3.2.2.1 ≥ 4294967296)) then
        (bif (tt 1 (k13 (80, ()))) then some (a2, a3, true, ()) else none)
      else
        (bif (!a1) then
          (bif ((k28 (a2, a3, ())) && (tt 1 (k13 (80, ())))) then some ((v28 (a2, a3, ())).1, (v28 (a2, a3, ())).2.1, (v28 (a2, a3, ())).2.2.1, ()) else none)
        else
          (bif ((k28 (a2, a3, ())) && (tt 1 (k13 (80, ())))) then some ((v28 (a2, a3, ())).1, (v28 (a2, a3, ())).2.1, (v28 (a2, a3, ())).2.2.1, ()) else none))))
  else
    (bif (!a1) then
      (bif ((k28 (a2, a3, ())) && (tt 1 (k13 (80, ())))) then some ((v28 (a2, a3, ())).1, (v28 (a2, a3, ())).2.1, (v28 (a2, a3, ())).2.2.1, ()) else none)
    else
      (bif ((k28 (a2, a3, ())) && (tt 1 (k13 (80, ())))) then some ((v28 (a2, a3, ())).1, (v28 (a2, a3, ())).2.1, (v28 (a2, a3, ())).2.2.1, ()) else none)))
theorem t9_80 (k13 : (Int × Unit) → Bool) (v28 : (KD0 × KD0 × Unit) → KD7) (k28 : (KD0 × KD0 × Unit) → Bool) (a1 : Bool) (a2 : KD0) (a3 : KD0) : fnT (CxL Try.Θ (kOf [(13, sm [(.int .i64)] (.int .i64) (fun _ => 16) k13), (28, sm [KT4, KT4] (.tup KT4 KT5) v28 k28)]) (lOf [])) Try.f9 (.tup KT4 KT5) [⟨(.int .i64), 80⟩, ⟨.bool, a1⟩, ⟨KT4, a2⟩, ⟨KT4, a3⟩] = S9_80 k13 v28 k28 a1 a2 a3 := by kernel_rfl
noncomputable def S9_96 (k13 : (Int × Unit) → Bool) (v29 : (KD0 × KD0 × Bool × Unit) → KD7) (k29 : (KD0 × KD0 × Bool × Unit) → Bool) (a1 : Bool) (a2 : KD0) (a3 : KD0) : Option KD7 :=
  (bif (!a1) then
    (bif (decide (a2.2.2.1 ≥ 4294967296)) then
      (bif (tt 1 (k13 (96, ()))) then some (a2, a3, true, ()) else none)
    else
      (bif (decide (a3.2.2.1 ≥ 4294967296)) then
        (bif (tt 1 (k13 (96, ()))) then some (a2, a3, true, ()) else none)
      else
        (bif (!a1) then
          (bif (decide (a2.2.2.1 ≥ 2147483648)) then
            (bif (tt 1 (k13 (96, ()))) then some (a2, a3, true, ()) else none)
          else
            (bif (decide (a3.2.2.1 ≥ 2147483648)) then
              (bif (tt 1 (k13 (96, ()))) then some (a2, a3, true, ()) else none)
            else
              (bif ((k29 (a2, a3, true, ())) && (tt 1 (k13 (96, ())))) then some ((v29 (a2, a3, true, ())).1, (v29 (a2, a3, true, ())).2.1, (v29 (a2, a3, true, ())).2.2.1, ()) else none)))
        else
          (bif (decide (a2.2.2.1 ≥ 9223372036854775808)) then
            (bif (tt 1 (k13 (96, ()))) then some (a2, a3, true, ()) else none)
          else
            (bif (decide (a3.2.2.1 ≥ 9223372036854775808)) then
              (bif (tt 1 (k13 (96, ()))) then some (a2, a3, true, ()) else none)
            else
              (bif ((k29 (a2, a3, true, ())) && (tt 1 (k13 (96, ())))) then some ((v29 (a2, a3, true, ())).1, (v29 (a2, a3, true, ())).2.1, (v29 (a2, a3, true, ())).2.2.1, ()) else none))))))
  else
    (bif (!a1) then
      (bif (decide (a2.2.2.1 ≥ 2147483648)) then
        (bif (tt 1 (k13 (96, ()))) then some (a2, a3, true, ()) else none)
      else
        (bif (decide (a3.2.2.1 ≥ 2147483648)) then
          (bif (tt 1 (k13 (96, ()))) then some (a2, a3, true, ()) else none)
        else
          (bif ((k29 (a2, a3, true, ())) && (tt 1 (k13 (96, ())))) then some ((v29 (a2, a3, true, ())).1, (v29 (a2, a3, true, ())).2.1, (v29 (a2, a3, true, ())).2.2.1, ()) else none)))
    else
      (bif (decide (a2.2.2.1 ≥ 9223372036854775808)) then
        (bif (tt 1 (k13 (96, ()))) then some (a2, a3, true, ()) else none)
      else
        (bif (decide (a3.2.2.1 ≥ 9223372036854775808)) then
          (bif (tt 1 (k13 (96, ()))) then some (a2, a3, true, ()) else none)
        else
          (bif ((k29 (a2, a3, true, ())) && (tt 1 (k13 (96, ())))) then some ((v29 (a2, a3, true, ())).1, (v29 (a2, a3, true, ())).2.1, (v29 (a2, a3, true, ())).2.2.1, ()) else none)))))
theorem t9_96 (k13 : (Int × Unit) → Bool) (v29 : (KD0 × KD0 × Bool × Unit) → KD7) (k29 : (KD0 × KD0 × Bool × Unit) → Bool) (a1 : Bool) (a2 : KD0) (a3 : KD0) : fnT (CxL Try.Θ (kOf [(13, sm [(.int .i64)] (.int .i64) (fun _ => 208) k13), (29, sm [KT4, KT4, .bool] (.tup KT4 KT5) v29 k29)]) (lOf [])) Try.f9 (.tup KT4 KT5) [⟨(.int .i64), 96⟩, ⟨.bool, a1⟩, ⟨KT4, a2⟩, ⟨KT4, a3⟩] = S9_96 k13 v29 k29 a1 a2 a3 := by kernel_rfl
noncomputable def S9_112 (k13 : (Int × Unit) → Bool) (v29 : (KD0 × KD0 × Bool × Unit) → KD7) (k29 : (KD0 × KD0 × Bool × Unit) → Bool) (a1 : Bool) (a2 : KD0) (a3 : KD0) : Option KD7 :=
  (bif (!a1) then
    (bif (decide (a2.2.2.1 ≥ 4294967296)) then
      (bif (tt 1 (k13 (112, ()))) then some (a2, a3, true, ()) else none)
    else
      (bif (decide (a3.2.2.1 ≥ 4294967296)) then
        (bif (tt 1 (k13 (112, ()))) then some (a2, a3, true, ()) else none)
      else
        (bif (!a1) then
          (bif (decide (a2.2.2.1 ≥ 2147483648)) then
            (bif (tt 1 (k13 (112, ()))) then some (a2, a3, true, ()) else none)
          else
            (bif (decide (a3.2.2.1 ≥ 2147483648)) then
              (bif (tt 1 (k13 (112, ()))) then some (a2, a3, true, ()) else none)
            else
              (bif ((k29 (a2, a3, false, ())) && (tt 1 (k13 (112, ())))) then some ((v29 (a2, a3, false, ())).1, (v29 (a2, a3, false, ())).2.1, (v29 (a2, a3, false, ())).2.2.1, ()) else none)))
        else
          (bif (decide (a2.2.2.1 ≥ 9223372036854775808)) then
            (bif (tt 1 (k13 (112, ()))) then some (a2, a3, true, ()) else none)
          else
            (bif (decide (a3.2.2.1 ≥ 9223372036854775808)) then
              (bif (tt 1 (k13 (112, ()))) then some (a2, a3, true, ()) else none)
            else
              (bif ((k29 (a2, a3, false, ())) && (tt 1 (k13 (112, ())))) then some ((v29 (a2, a3, false, ())).1, (v29 (a2, a3, false, ())).2.1, (v29 (a2, a3, false, ())).2.2.1, ()) else none))))))
  else
    (bif (!a1) then
      (bif (decide (a2.2.2.1 ≥ 2147483648)) then
        (bif (tt 1 (k13 (112, ()))) then some (a2, a3, true, ()) else none)
      else
        (bif (decide (a3.2.2.1 ≥ 2147483648)) then
          (bif (tt 1 (k13 (112, ()))) then some (a2, a3, true, ()) else none)
        else
          (bif ((k29 (a2, a3, false, ())) && (tt 1 (k13 (112, ())))) then some ((v29 (a2, a3, false, ())).1, (v29 (a2, a3, false, ())).2.1, (v29 (a2, a3, false, ())).2.2.1, ()) else none)))
    else
      (bif (decide (a2.2.2.1 ≥ 9223372036854775808)) then
        (bif (tt 1 (k13 (112, ()))) then some (a2, a3, true, ()) else none)
      else
        (bif (decide (a3.2.2.1 ≥ 9223372036854775808)) then
          (bif (tt 1 (k13 (112, ()))) then some (a2, a3, true, ()) else none)
        else
          (bif ((k29 (a2, a3, false, ())) && (tt 1 (k13 (112, ())))) then some ((v29 (a2, a3, false, ())).1, (v29 (a2, a3, false, ())).2.1, (v29 (a2, a3, false, ())).2.2.1, ()) else none)))))
theorem t9_112 (k13 : (Int × Unit) → Bool) (v29 : (KD0 × KD0 × Bool × Unit) → KD7) (k29 : (KD0 × KD0 × Bool × Unit) → Bool) (a1 : Bool) (a2 : KD0) (a3 : KD0) : fnT (CxL Try.Θ (kOf [(13, sm [(.int .i64)] (.int .i64) (fun _ => 192) k13), (29, sm [KT4, KT4, .bool] (.tup KT4 KT5) v29 k29)]) (lOf [])) Try.f9 (.tup KT4 KT5) [⟨(.int .i64), 112⟩, ⟨.bool, a1⟩, ⟨KT4, a2⟩, ⟨KT4, a3⟩] = S9_112 k13 v29 k29 a1 a2 a3 := by kernel_rfl
noncomputable def S9_160 (k13 : (Int × Unit) → Bool) (v29 : (KD0 × KD0 × Bool × Unit) → KD7) (k29 : (KD0 × KD0 × Bool × Unit) → Bool) (v30 : (KD0 × KD0 × Bool × Unit) → KD7) (k30 : (KD0 × KD0 × Bool × Unit) → Bool) (a1 : Bool) (a2 : KD0) (a3 : KD0) : Option KD7 :=
  (bif (!a1) then
    (bif (decide (a2.2.2.1 ≥ 4294967296)) then
      (bif (tt 1 (k13 (160, ()))) then some (a2, a3, true, ()) else none)
    else
      (bif (decide (a3.2.2.1 ≥ 4294967296)) then
        (bif (tt 1 (k13 (160, ()))) then some (a2, a3, true, ()) else none)
      else
        (bif (!a1) then
          (bif ((k30 ((v29 (a3, a2, true, ())).1, (v29 (a3, a2, true, ())).2.1, (v29 (a3, a2, true, ())).2.2.1, ())) && ((k29 (a3, a2, true, ())) && (tt 1 (k13 (160, ()))))) then some ((v30 ((v29 (a3, a2, true, ())).1, (v29 (a3, a2, true, ())).2.1, (v29 (a3, a2, true, ())).2.2.1, ())).1, (v30 ((v29 (a3, a2, true, ())).1, (v29 (a3, a2, true, ())).2.1, (v29 (a3, a2, true, ())).2.2.1, ())).2.1, (v30 ((v29 (a3, a2, true, ())).1, (v29 (a3, a2, true, ())).2.1, (v29 (a3, a2, true, ())).2.2.1, ())).2.2.1, ()) else none)
        else
          (bif ((k30 ((v29 (a3, a2, true, ())).1, (v29 (a3, a2, true, ())).2.1, (v29 (a3, a2, true, ())).2.2.1, ())) && ((k29 (a3, a2, true, ())) && (tt 1 (k13 (160, ()))))) then some ((v30 ((v29 (a3, a2, true, ())).1, (v29 (a3, a2, true, ())).2.1, (v29 (a3, a2, true, ())).2.2.1, ())).1, (v30 ((v29 (a3, a2, true, ())).1, (v29 (a3, a2, true, ())).2.1, (v29 (a3, a2, true, ())).2.2.1, ())).2.1, (v30 ((v29 (a3, a2, true, ())).1, (v29 (a3, a2, true, ())).2.1, (v29 (a3, a2, true, ())).2.2.1, ())).2.2.1, ()) else none))))
  else
    (bif (!a1) then
      (bif ((k30 ((v29 (a3, a2, true, ())).1, (v29 (a3, a2, true, ())).2.1, (v29 (a3, a2, true, ())).2.2.1, ())) && ((k29 (a3, a2, true, ())) && (tt 1 (k13 (160, ()))))) then some ((v30 ((v29 (a3, a2, true, ())).1, (v29 (a3, a2, true, ())).2.1, (v29 (a3, a2, true, ())).2.2.1, ())).1, (v30 ((v29 (a3, a2, true, ())).1, (v29 (a3, a2, true, ())).2.1, (v29 (a3, a2, true, ())).2.2.1, ())).2.1, (v30 ((v29 (a3, a2, true, ())).1, (v29 (a3, a2, true, ())).2.1, (v29 (a3, a2, true, ())).2.2.1, ())).2.2.1, ()) else none)
    else
      (bif ((k30 ((v29 (a3, a2, true, ())).1, (v29 (a3, a2, true, ())).2.1, (v29 (a3, a2, true, ())).2.2.1, ())) && ((k29 (a3, a2, true, ())) && (tt 1 (k13 (160, ()))))) then some ((v30 ((v29 (a3, a2, true, ())).1, (v29 (a3, a2, true, ())).2.1, (v29 (a3, a2, true, ())).2.2.1, ())).1, (v30 ((v29 (a3, a2, true, ())).1, (v29 (a3, a2, true, ())).2.1, (v29 (a3, a2, true, ())).2.2.1, ())).2.1, (v30 ((v29 (a3, a2, true, ())).1, (v29 (a3, a2, true, ())).2.1, (v29 (a3, a2, true, ())).2.2.1, ())).2.2.1, ()) else none)))
theorem t9_160 (k13 : (Int × Unit) → Bool) (v29 : (KD0 × KD0 × Bool × Unit) → KD7) (k29 : (KD0 × KD0 × Bool × Unit) → Bool) (v30 : (KD0 × KD0 × Bool × Unit) → KD7) (k30 : (KD0 × KD0 × Bool × Unit) → Bool) (a1 : Bool) (a2 : KD0) (a3 : KD0) : fnT (CxL Try.Θ (kOf [(13, sm [(.int .i64)] (.int .i64) (fun _ => 48) k13), (29, sm [KT4, KT4, .bool] (.tup KT4 KT5) v29 k29), (30, sm [KT4, KT4, .bool] (.tup KT4 KT5) v30 k30)]) (lOf [])) Try.f9 (.tup KT4 KT5) [⟨(.int .i64), 160⟩, ⟨.bool, a1⟩, ⟨KT4, a2⟩, ⟨KT4, a3⟩] = S9_160 k13 v29 k29 v30 k30 a1 a2 a3 := by kernel_rfl
noncomputable def S9_176 (k13 : (Int × Unit) → Bool) (v29 : (KD0 × KD0 × Bool × Unit) → KD7) (k29 : (KD0 × KD0 × Bool × Unit) → Bool) (v30 : (KD0 × KD0 × Bool × Unit) → KD7) (k30 : (KD0 × KD0 × Bool × Unit) → Bool) (a1 : Bool) (a2 : KD0) (a3 : KD0) : Option KD7 :=
  (bif (!a1) then
    (bif (decide (a2.2.2.1 ≥ 4294967296)) then
      (bif (tt 1 (k13 (176, ()))) then some (a2, a3, true, ()) else none)
    else
      (bif (decide (a3.2.2.1 ≥ 4294967296)) then
        (bif (tt 1 (k13 (176, ()))) then some (a2, a3, true, ()) else none)
      else
        (bif (!a1) then
          (bif ((k30 ((v29 (a3, a2, false, ())).1, (v29 (a3, a2, false, ())).2.1, (v29 (a3, a2, false, ())).2.2.1, ())) && ((k29 (a3, a2, false, ())) && (tt 1 (k13 (176, ()))))) then some ((v30 ((v29 (a3, a2, false, ())).1, (v29 (a3, a2, false, ())).2.1, (v29 (a3, a2, false, ())).2.2.1, ())).1, (v30 ((v29 (a3, a2, false, ())).1, (v29 (a3, a2, false, ())).2.1, (v29 (a3, a2, false, ())).2.2.1, ())).2.1, (v30 ((v29 (a3, a2, false, ())).1, (v29 (a3, a2, false, ())).2.1, (v29 (a3, a2, false, ())).2.2.1, ())).2.2.1, ()) else none)
        else
          (bif ((k30 ((v29 (a3, a2, false, ())).1, (v29 (a3, a2, false, ())).2.1, (v29 (a3, a2, false, ())).2.2.1, ())) && ((k29 (a3, a2, false, ())) && (tt 1 (k13 (176, ()))))) then some ((v30 ((v29 (a3, a2, false, ())).1, (v29 (a3, a2, false, ())).2.1, (v29 (a3, a2, false, ())).2.2.1, ())).1, (v30 ((v29 (a3, a2, false, ())).1, (v29 (a3, a2, false, ())).2.1, (v29 (a3, a2, false, ())).2.2.1, ())).2.1, (v30 ((v29 (a3, a2, false, ())).1, (v29 (a3, a2, false, ())).2.1, (v29 (a3, a2, false, ())).2.2.1, ())).2.2.1, ()) else none))))
  else
    (bif (!a1) then
      (bif ((k30 ((v29 (a3, a2, false, ())).1, (v29 (a3, a2, false, ())).2.1, (v29 (a3, a2, false, ())).2.2.1, ())) && ((k29 (a3, a2, false, ())) && (tt 1 (k13 (176, ()))))) then some ((v30 ((v29 (a3, a2, false, ())).1, (v29 (a3, a2, false, ())).2.1, (v29 (a3, a2, false, ())).2.2.1, ())).1, (v30 ((v29 (a3, a2, false, ())).1, (v29 (a3, a2, false, ())).2.1, (v29 (a3, a2, false, ())).2.2.1, ())).2.1, (v30 ((v29 (a3, a2, false, ())).1, (v29 (a3, a2, false, ())).2.1, (v29 (a3, a2, false, ())).2.2.1, ())).2.2.1, ()) else none)
    else
      (bif ((k30 ((v29 (a3, a2, false, ())).1, (v29 (a3, a2, false, ())).2.1, (v29 (a3, a2, false, ())).2.2.1, ())) && ((k29 (a3, a2, false, ())) && (tt 1 (k13 (176, ()))))) then some ((v30 ((v29 (a3, a2, false, ())).1, (v29 (a3, a2, false, ())).2.1, (v29 (a3, a2, false, ())).2.2.1, ())).1, (v30 ((v29 (a3, a2, false, ())).1, (v29 (a3, a2, false, ())).2.1, (v29 (a3, a2, false, ())).2.2.1, ())).2.1, (v30 ((v29 (a3, a2, false, ())).1, (v29 (a3, a2, false, ())).2.1, (v29 (a3, a2, false, ())).2.2.1, ())).2.2.1, ()) else none)))
theorem t9_176 (k13 : (Int × Unit) → Bool) (v29 : (KD0 × KD0 × Bool × Unit) → KD7) (k29 : (KD0 × KD0 × Bool × Unit) → Bool) (v30 : (KD0 × KD0 × Bool × Unit) → KD7) (k30 : (KD0 × KD0 × Bool × Unit) → Bool) (a1 : Bool) (a2 : KD0) (a3 : KD0) : fnT (CxL Try.Θ (kOf [(13, sm [(.int .i64)] (.int .i64) (fun _ => 32) k13), (29, sm [KT4, KT4, .bool] (.tup KT4 KT5) v29 k29), (30, sm [KT4, KT4, .bool] (.tup KT4 KT5) v30 k30)]) (lOf [])) Try.f9 (.tup KT4 KT5) [⟨(.int .i64), 176⟩, ⟨.bool, a1⟩, ⟨KT4, a2⟩, ⟨KT4, a3⟩] = S9_176 k13 v29 k29 v30 k30 a1 a2 a3 := by kernel_rfl
noncomputable def S9_192 (k13 : (Int × Unit) → Bool) (v29 : (KD0 × KD0 × Bool × Unit) → KD7) (k29 : (KD0 × KD0 × Bool × Unit) → Bool) (v30 : (KD0 × KD0 × Bool × Unit) → KD7) (k30 : (KD0 × KD0 × Bool × Unit) → Bool) (a1 : Bool) (a2 : KD0) (a3 : KD0) : Option KD7 :=
  (bif (!a1) then
    (bif (decide (a2.2.2.1 ≥ 4294967296)) then
      (bif (tt 1 (k13 (192, ()))) then some (a2, a3, true, ()) else none)
    else
      (bif (decide (a3.2.2.1 ≥ 4294967296)) then
        (bif (tt 1 (k13 (192, ()))) then some (a2, a3, true, ()) else none)
      else
        (bif (!a1) then
          (bif (decide (a2.2.2.1 ≥ 2147483648)) then
            (bif (tt 1 (k13 (192, ()))) then some (a2, a3, true, ()) else none)
          else
            (bif (decide (a3.2.2.1 ≥ 2147483648)) then
              (bif (tt 1 (k13 (192, ()))) then some (a2, a3, true, ()) else none)
            else
              (bif ((k30 ((v29 (a3, a2, true, ())).1, (v29 (a3, a2, true, ())).2.1, (v29 (a3, a2, true, ())).2.2.1, ())) && ((k29 (a3, a2, true, ())) && (tt 1 (k13 (192, ()))))) then some ((v30 ((v29 (a3, a2, true, ())).1, (v29 (a3, a2, true, ())).2.1, (v29 (a3, a2, true, ())).2.2.1, ())).1, (v30 ((v29 (a3, a2, true, ())).1, (v29 (a3, a2, true, ())).2.1, (v29 (a3, a2, true, ())).2.2.1, ())).2.1, (v30 ((v29 (a3, a2, true, ())).1, (v29 (a3, a2, true, ())).2.1, (v29 (a3, a2, true, ())).2.2.1, ())).2.2.1, ()) else none)))
        else
          (bif (decide (a2.2.2.1 ≥ 9223372036854775808)) then
            (bif (tt 1 (k13 (192, ()))) then some (a2, a3, true, ()) else none)
          else
            (bif (decide (a3.2.2.1 ≥ 9223372036854775808)) then
              (bif (tt 1 (k13 (192, ()))) then some (a2, a3, true, ()) else none)
            else
              (bif ((k30 ((v29 (a3, a2, true, ())).1, (v29 (a3, a2, true, ())).2.1, (v29 (a3, a2, true, ())).2.2.1, ())) && ((k29 (a3, a2, true, ())) && (tt 1 (k13 (192, ()))))) then some ((v30 ((v29 (a3, a2, true, ())).1, (v29 (a3, a2, true, ())).2.1, (v29 (a3, a2, true, ())).2.2.1, ())).1, (v30 ((v29 (a3, a2, true, ())).1, (v29 (a3, a2, true, ())).2.1, (v29 (a3, a2, true, ())).2.2.1, ())).2.1, (v30 ((v29 (a3, a2, true, ())).1, (v29 (a3, a2, true, ())).2.1, (v29 (a3, a2, true, ())).2.2.1, ())).2.2.1, ()) else none))))))
  else
    (bif (!a1) then
      (bif (decide (a2.2.2.1 ≥ 2147483648)) then
        (bif (tt 1 (k13 (192, ()))) then some (a2, a3, true, ()) else none)
      else
        (bif (decide (a3.2.2.1 ≥ 2147483648)) then
          (bif (tt 1 (k13 (192, ()))) then some (a2, a3, true, ()) else none)
        else
          (bif ((k30 ((v29 (a3, a2, true, ())).1, (v29 (a3, a2, true, ())).2.1, (v29 (a3, a2, true, ())).2.2.1, ())) && ((k29 (a3, a2, true, ())) && (tt 1 (k13 (192, ()))))) then some ((v30 ((v29 (a3, a2, true, ())).1, (v29 (a3, a2, true, ())).2.1, (v29 (a3, a2, true, ())).2.2.1, ())).1, (v30 ((v29 (a3, a2, true, ())).1, (v29 (a3, a2, true, ())).2.1, (v29 (a3, a2, true, ())).2.2.1, ())).2.1, (v30 ((v29 (a3, a2, true, ())).1, (v29 (a3, a2, true, ())).2.1, (v29 (a3, a2, true, ())).2.2.1, ())).2.2.1, ()) else none)))
    else
      (bif (decide (a2.2.2.1 ≥ 9223372036854775808)) then
        (bif (tt 1 (k13 (192, ()))) then some (a2, a3, true, ()) else none)
      else
        (bif (decide (a3.2.2.1 ≥ 9223372036854775808)) then
          (bif (tt 1 (k13 (192, ()))) then some (a2, a3, true, ()) else none)
        else
          (bif ((k30 ((v29 (a3, a2, true, ())).1, (v29 (a3, a2, true, ())).2.1, (v29 (a3, a2, true, ())).2.2.1, ())) && ((k29 (a3, a2, true, ())) && (tt 1 (k13 (192, ()))))) then some ((v30 ((v29 (a3, a2, true, ())).1, (v29 (a3, a2, true, ())).2.1, (v29 (a3, a2, true, ())).2.2.1, ())).1, (v30 ((v29 (a3, a2, true, ())).1, (v29 (a3, a2, true, ())).2.1, (v29 (a3, a2, true, ())).2.2.1, ())).2.1, (v30 ((v29 (a3, a2, true, ())).1, (v29 (a3, a2, true, ())).2.1, (v29 (a3, a2, true, ())).2.2.1, ())).2.2.1, ()) else none)))))
theorem t9_192 (k13 : (Int × Unit) → Bool) (v29 : (KD0 × KD0 × Bool × Unit) → KD7) (k29 : (KD0 × KD0 × Bool × Unit) → Bool) (v30 : (KD0 × KD0 × Bool × Unit) → KD7) (k30 : (KD0 × KD0 × Bool × Unit) → Bool) (a1 : Bool) (a2 : KD0) (a3 : KD0) : fnT (CxL Try.Θ (kOf [(13, sm [(.int .i64)] (.int .i64) (fun _ => 112) k13), (29, sm [KT4, KT4, .bool] (.tup KT4 KT5) v29 k29), (30, sm [KT4, KT4, .bool] (.tup KT4 KT5) v30 k30)]) (lOf [])) Try.f9 (.tup KT4 KT5) [⟨(.int .i64), 192⟩, ⟨.bool, a1⟩, ⟨KT4, a2⟩, ⟨KT4, a3⟩] = S9_192 k13 v29 k29 v30 k30 a1 a2 a3 := by kernel_rfl
noncomputable def S9_208 (k13 : (Int × Unit) → Bool) (v29 : (KD0 × KD0 × Bool × Unit) → KD7) (k29 : (KD0 × KD0 × Bool × Unit) → Bool) (v30 : (KD0 × KD0 × Bool × Unit) → KD7) (k30 : (KD0 × KD0 × Bool × Unit) → Bool) (a1 : Bool) (a2 : KD0) (a3 : KD0) : Option KD7 :=
  (bif (!a1) then
    (bif (decide (a2.2.2.1 ≥ 4294967296)) then
      (bif (tt 1 (k13 (208, ()))) then some (a2, a3, true, ()) else none)
    else
      (bif (decide (a3.2.2.1 ≥ 4294967296)) then
        (bif (tt 1 (k13 (208, ()))) then some (a2, a3, true, ()) else none)
      else
        (bif (!a1) then
          (bif (decide (a2.2.2.1 ≥ 2147483648)) then
            (bif (tt 1 (k13 (208, ()))) then some (a2, a3, true, ()) else none)
          else
            (bif (decide (a3.2.2.1 ≥ 2147483648)) then
              (bif (tt 1 (k13 (208, ()))) then some (a2, a3, true, ()) else none)
            else
              (bif ((k30 ((v29 (a3, a2, false, ())).1, (v29 (a3, a2, false, ())).2.1, (v29 (a3, a2, false, ())).2.2.1, ())) && ((k29 (a3, a2, false, ())) && (tt 1 (k13 (208, ()))))) then some ((v30 ((v29 (a3, a2, false, ())).1, (v29 (a3, a2, false, ())).2.1, (v29 (a3, a2, false, ())).2.2.1, ())).1, (v30 ((v29 (a3, a2, false, ())).1, (v29 (a3, a2, false, ())).2.1, (v29 (a3, a2, false, ())).2.2.1, ())).2.1, (v30 ((v29 (a3, a2, false, ())).1, (v29 (a3, a2, false, ())).2.1, (v29 (a3, a2, false, ())).2.2.1, ())).2.2.1, ()) else none)))
        else
          (bif (decide (a2.2.2.1 ≥ 9223372036854775808)) then
            (bif (tt 1 (k13 (208, ()))) then some (a2, a3, true, ()) else none)
          else
            (bif (decide (a3.2.2.1 ≥ 9223372036854775808)) then
              (bif (tt 1 (k13 (208, ()))) then some (a2, a3, true, ()) else none)
            else
              (bif ((k30 ((v29 (a3, a2, false, ())).1, (v29 (a3, a2, false, ())).2.1, (v29 (a3, a2, false, ())).2.2.1, ())) && ((k29 (a3, a2, false, ())) && (tt 1 (k13 (208, ()))))) then some ((v30 ((v29 (a3, a2, false, ())).1, (v29 (a3, a2, false, ())).2.1, (v29 (a3, a2, false, ())).2.2.1, ())).1, (v30 ((v29 (a3, a2, false, ())).1, (v29 (a3, a2, false, ())).2.1, (v29 (a3, a2, false, ())).2.2.1, ())).2.1, (v30 ((v29 (a3, a2, false, ())).1, (v29 (a3, a2, false, ())).2.1, (v29 (a3, a2, false, ())).2.2.1, ())).2.2.1, ()) else none))))))
  else
    (bif (!a1) then
      (bif (decide (a2.2.2.1 ≥ 2147483648)) then
        (bif (tt 1 (k13 (208, ()))) then some (a2, a3, true, ()) else none)
      else
        (bif (decide (a3.2.2.1 ≥ 2147483648)) then
          (bif (tt 1 (k13 (208, ()))) then some (a2, a3, true, ()) else none)
        else
          (bif ((k30 ((v29 (a3, a2, false, ())).1, (v29 (a3, a2, false, ())).2.1, (v29 (a3, a2, false, ())).2.2.1, ())) && ((k29 (a3, a2, false, ())) && (tt 1 (k13 (208, ()))))) then some ((v30 ((v29 (a3, a2, false, ())).1, (v29 (a3, a2, false, ())).2.1, (v29 (a3, a2, false, ())).2.2.1, ())).1, (v30 ((v29 (a3, a2, false, ())).1, (v29 (a3, a2, false, ())).2.1, (v29 (a3, a2, false, ())).2.2.1, ())).2.1, (v30 ((v29 (a3, a2, false, ())).1, (v29 (a3, a2, false, ())).2.1, (v29 (a3, a2, false, ())).2.2.1, ())).2.2.1, ()) else none)))
    else
      (bif (decide (a2.2.2.1 ≥ 9223372036854775808)) then
        (bif (tt 1 (k13 (208, ()))) then some (a2, a3, true, ()) else none)
      else
        (bif (decide (a3.2.2.1 ≥ 9223372036854775808)) then
          (bif (tt 1 (k13 (208, ()))) then some (a2, a3, true, ()) else none)
        else
          (bif ((k30 ((v29 (a3, a2, false, ())).1, (v29 (a3, a2, false, ())).2.1, (v29 (a3, a2, false, ())).2.2.1, ())) && ((k29 (a3, a2, false, ())) && (tt 1 (k13 (208, ()))))) then some ((v30 ((v29 (a3, a2, false, ())).1, (v29 (a3, a2, false, ())).2.1, (v29 (a3, a2, false, ())).2.2.1, ())).1, (v30 ((v29 (a3, a2, false, ())).1, (v29 (a3, a2, false, ())).2.1, (v29 (a3, a2, false, ())).2.2.1, ())).2.1, (v30 ((v29 (a3, a2, false, ())).1, (v29 (a3, a2, false, ())).2.1, (v29 (a3, a2, false, ())).2.2.1, ())).2.2.1, ()) else none)))))
theorem t9_208 (k13 : (Int × Unit) → Bool) (v29 : (KD0 × KD0 × Bool × Unit) → KD7) (k29 : (KD0 × KD0 × Bool × Unit) → Bool) (v30 : (KD0 × KD0 × Bool × Unit) → KD7) (k30 : (KD0 × KD0 × Bool × Unit) → Bool) (a1 : Bool) (a2 : KD0) (a3 : KD0) : fnT (CxL Try.Θ (kOf [(13, sm [(.int .i64)] (.int .i64) (fun _ => 96) k13), (29, sm [KT4, KT4, .bool] (.tup KT4 KT5) v29 k29), (30, sm [KT4, KT4, .bool] (.tup KT4 KT5) v30 k30)]) (lOf [])) Try.f9 (.tup KT4 KT5) [⟨(.int .i64), 208⟩, ⟨.bool, a1⟩, ⟨KT4, a2⟩, ⟨KT4, a3⟩] = S9_208 k13 v29 k29 v30 k30 a1 a2 a3 := by kernel_rfl
noncomputable def S9_n (k13 : (Int × Unit) → Bool) (a0 : Int) (a1 : Bool) (a2 : KD0) (a3 : KD0) : Option KD7 :=
  (bif (tt 1 (k13 (a0, ()))) then some (a2, a3, true, ()) else none)
theorem t9_n (k13 : (Int × Unit) → Bool) (a0 : Int) (a1 : Bool) (a2 : KD0) (a3 : KD0) : fnT (CxL Try.Θ (kOf [(13, sm [(.int .i64)] (.int .i64) (fun _ => (-1)) k13)]) (lOf [])) Try.f9 (.tup KT4 KT5) [⟨(.int .i64), a0⟩, ⟨.bool, a1⟩, ⟨KT4, a2⟩, ⟨KT4, a3⟩] = S9_n k13 a0 a1 a2 a3 := by kernel_rfl
noncomputable def S10 (v8 : (Int × Bool × KD0 × KD0 × Unit) → KD7) (k8 : (Int × Bool × KD0 × KD0 × Unit) → Bool) (v12 : (Int × Unit) → Int) (k12 : (Int × Unit) → Bool) (a0 : Int) (a1 : Bool) (a2 : KD0) (a3 : KD0) : Option (Bool × (Bool × Unit)) :=
  (bif (decide ((v12 (a0, ())) < 0)) then
    (bif (tt 1 (k12 (a0, ()))) then some (false, false, ()) else none)
  else
    (bif (!(v8 (a0, a1, a2, a3, ())).2.2.1) then
      (bif ((k8 (a0, a1, a2, a3, ())) && (tt 1 (k12 (a0, ())))) then some (false, true, ()) else none)
    else
      (bif (!(v8 ((v12 (a0, ())), a1, a2, a3, ())).2.2.1) then
        (bif ((k8 ((v12 (a0, ())), a1, a2, a3, ())) && ((k8 (a0, a1, a2, a3, ())) && (tt 1 (k12 (a0, ()))))) then some (true, true, ()) else none)
      else
        (bif ((k8 ((v12 (a0, ())), a1, a2, a3, ())) && ((k8 (a0, a1, a2, a3, ())) && (tt 1 (k12 (a0, ()))))) then some (false, false, ()) else none))))
theorem t10 (v8 : (Int × Bool × KD0 × KD0 × Unit) → KD7) (k8 : (Int × Bool × KD0 × KD0 × Unit) → Bool) (v12 : (Int × Unit) → Int) (k12 : (Int × Unit) → Bool) (a0 : Int) (a1 : Bool) (a2 : KD0) (a3 : KD0) : fnT (CxL Try.Θ (kOf [(8, sm [(.int .i64), .bool, KT4, KT4] (.tup KT4 KT5) v8 k8), (12, sm [(.int .i64)] (.int .i64) v12 k12)]) (lOf [])) Try.f10 KT8 [⟨(.int .i64), a0⟩, ⟨.bool, a1⟩, ⟨KT4, a2⟩, ⟨KT4, a3⟩] = S10 v8 k8 v12 k12 a0 a1 a2 a3 := by kernel_rfl
noncomputable def S11 (v9 : (Int × Bool × KD0 × KD0 × Unit) → KD7) (k9 : (Int × Bool × KD0 × KD0 × Unit) → Bool) (v13 : (Int × Unit) → Int) (k13 : (Int × Unit) → Bool) (a0 : Int) (a1 : Bool) (a2 : KD0) (a3 : KD0) : Option (Bool × (Bool × Unit)) :=
  (bif (decide ((v13 (a0, ())) < 0)) then
    (bif (tt 1 (k13 (a0, ()))) then some (false, false, ()) else none)
  else
    (bif (!(v9 (a0, a1, a2, a3, ())).2.2.1) then
      (bif ((k9 (a0, a1, a2, a3, ())) && (tt 1 (k13 (a0, ())))) then some (false, true, ()) else none)
    else
      (bif (((k9 ((v13 (a0, ())), a1, a2, a3, ())) && (tt 1 (k13 (a0, ())))) && ((k9 (a0, a1, a2, a3, ())) && (tt 1 (k13 (a0, ()))))) then some ((!(v9 ((v13 (a0, ())), a1, a2, a3, ())).2.2.1), (!(v9 ((v13 (a0, ())), a1, a2, a3, ())).2.2.1), ()) else none)))
theorem t11 (v9 : (Int × Bool × KD0 × KD0 × Unit) → KD7) (k9 : (Int × Bool × KD0 × KD0 × Unit) → Bool) (v13 : (Int × Unit) → Int) (k13 : (Int × Unit) → Bool) (a0 : Int) (a1 : Bool) (a2 : KD0) (a3 : KD0) : fnT (CxL Try.Θ (kOf [(9, sm [(.int .i64), .bool, KT4, KT4] (.tup KT4 KT5) v9 k9), (13, sm [(.int .i64)] (.int .i64) v13 k13)]) (lOf [])) Try.f11 KT8 [⟨(.int .i64), a0⟩, ⟨.bool, a1⟩, ⟨KT4, a2⟩, ⟨KT4, a3⟩] = S11 v9 k9 v13 k13 a0 a1 a2 a3 := by kernel_rfl
noncomputable def S3 (v7 : (KD0 × Unit) → KD0) (k7 : (KD0 × Unit) → Bool) (v8 : (Int × Bool × KD0 × KD0 × Unit) → KD7) (k8 : (Int × Bool × KD0 × KD0 × Unit) → Bool) (v9 : (Int × Bool × KD0 × KD0 × Unit) → KD7) (k9 : (Int × Bool × KD0 × KD0 × Unit) → Bool) (v10 : (Int × Bool × KD0 × KD0 × Unit) → (Bool × (Bool × Unit))) (k10 : (Int × Bool × KD0 × KD0 × Unit) → Bool) (v11 : (Int × Bool × KD0 × KD0 × Unit) → (Bool × (Bool × Unit))) (k11 : (Int × Bool × KD0 × KD0 × Unit) → Bool) (v12 : (Int × Unit) → Int) (k12 : (Int × Unit) → Bool) (v13 : (Int × Unit) → Int) (k13 : (Int × Unit) → Bool) (v14 : (Unit) → Bool) (k14 : (Unit) → Bool) (a0 : Int) (a1 : Bool) (a2 : (List KD0)) : Option Bool :=
  (bif (((decide ((v8 (a0, a1, (v7 ((a2.getD 0 ((0, (0, ())), (0, (0, ())))), ())), (v7 ((a2.getD 1 ((0, (0, ())), (0, (0, ())))), ())), ())).1.1.1 = (v9 (a0, a1, (v7 ((a2.getD 0 ((0, (0, ())), (0, (0, ())))), ())), (v7 ((a2.getD 1 ((0, (0, ())), (0, (0, ())))), ())), ())).1.1.1)) && (tt 1 (decide ((v8 (a0, a1, (v7 ((a2.getD 0 ((0, (0, ())), (0, (0, ())))), ())), (v7 ((a2.getD 1 ((0, (0, ())), (0, (0, ())))), ())), ())).1.1.2.1 = (v9 (a0, a1, (v7 ((a2.getD 0 ((0, (0, ())), (0, (0, ())))), ())), (v7 ((a2.getD 1 ((0, (0, ())), (0, (0, ())))), ())), ())).1.1.2.1)))) && ((decide ((v8 (a0, a1, (v7 ((a2.getD 0 ((0, (0, ())), (0, (0, ())))), ())), (v7 ((a2.getD 1 ((0, (0, ())), (0, (0, ())))), ())), ())).1.2.1 = (v9 (a0, a1, (v7 ((a2.getD 0 ((0, (0, ())), (0, (0, ())))), ())), (v7 ((a2.getD 1 ((0, (0, ())), (0, (0, ())))), ())), ())).1.2.1)) && (tt 1 (decide ((v8 (a0, a1, (v7 ((a2.getD 0 ((0, (0, ())), (0, (0, ())))), ())), (v7 ((a2.getD 1 ((0, (0, ())), (0, (0, ())))), ())), ())).1.2.2.1 = (v9 (a0, a1, (v7 ((a2.getD 0 ((0, (0, ())), (0, (0, ())))), ())), (v7 ((a2.getD 1 ((0, (0, ())), (0, (0, ())))), ())), ())).1.2.2.1))))) then
    (bif (((decide ((v8 (a0, a1, (v7 ((a2.getD 0 ((0, (0, ())), (0, (0, ())))), ())), (v7 ((a2.getD 1 ((0, (0, ())), (0, (0, ())))), ())), ())).2.1.1.1 = (v9 (a0, a1, (v7 ((a2.getD 0 ((0, (0, ())), (0, (0, ())))), ())), (v7 ((a2.getD 1 ((0, (0, ())), (0, (0, ())))), ())), ())).2.1.1.1)) && (tt 1 (decide ((v8 (a0, a1, (v7 ((a2.getD 0 ((0, (0, ())), (0, (0, ())))), ())), (v7 ((a2.getD 1 ((0, (0, ())), (0, (0, ())))), ())), ())).2.1.1.2.1 = (v9 (a0, a1, (v7 ((a2.getD 0 ((0, (0, ())), (0, (0, ())))), ())), (v7 ((a2.getD 1 ((0, (0, ())), (0, (0, ())))), ())), ())).2.1.1.2.1)))) && ((decide ((v8 (a0, a1, (v7 ((a2.getD 0 ((0, (0, ())), (0, (0, ())))), ())), (v7 ((a2.getD 1 ((0, (0, ())), (0, (0, ())))), ())), ())).2.1.2.1 = (v9 (a0, a1, (v7 ((a2.getD 0 ((0, (0, ())), (0, (0, ())))), ())), (v7 ((a2.getD 1 ((0, (0, ())), (0, (0, ())))), ())), ())).2.1.2.1)) && (tt 1 (decide ((v8 (a0, a1, (v7 ((a2.getD 0 ((0, (0, ())), (0, (0, ())))), ())), (v7 ((a2.getD 1 ((0, (0, ())), (0, (0, ())))), ())), ())).2.1.2.2.1 = (v9 (a0, a1, (v7 ((a2.getD 0 ((0, (0, ())), (0, (0, ())))), ())), (v7 ((a2.getD 1 ((0, (0, ())), (0, (0, ())))), ())), ())).2.1.2.2.1))))) then
      (bif ((v8 (a0, a1, (v7 ((a2.getD 0 ((0, (0, ())), (0, (0, ())))), ())), (v7 ((a2.getD 1 ((0, (0, ())), (0, (0, ())))), ())), ())).2.2.1 == (v9 (a0, a1, (v7 ((a2.getD 0 ((0, (0, ())), (0, (0, ())))), ())), (v7 ((a2.getD 1 ((0, (0, ())), (0, (0, ())))), ())), ())).2.2.1) then
        (bif ((v10 (a0, a1, (v7 ((a2.getD 0 ((0, (0, ())), (0, (0, ())))), ())), (v7 ((a2.getD 1 ((0, (0, ())), (0, (0, ())))), ())), ())).1 == (v11 (a0, a1, (v7 ((a2.getD 0 ((0, (0, ())), (0, (0, ())))), ())), (v7 ((a2.getD 1 ((0, (0, ())), (0, (0, ())))), ())), ())).1) then
          (bif ((v10 (a0, a1, (v7 ((a2.getD 0 ((0, (0, ())), (0, (0, ())))), ())), (v7 ((a2.getD 1 ((0, (0, ())), (0, (0, ())))), ())), ())).2.1 == (v11 (a0, a1, (v7 ((a2.getD 0 ((0, (0, ())), (0, (0, ())))), ())), (v7 ((a2.getD 1 ((0, (0, ())), (0, (0, ())))), ())), ())).2.1) then
            (bif (decide ((v12 (a0, ())) = (v13 (a0, ())))) then
              (bif ((k14 (())) && ((k13 (a0, ())) && ((k12 (a0, ())) && ((k11 (a0, a1, (v7 ((a2.getD 0 ((0, (0, ())), (0, (0, ())))), ())), (v7 ((a2.getD 1 ((0, (0, ())), (0, (0, ())))), ())), ())) && ((k10 (a0, a1, (v7 ((a2.getD 0 ((0, (0, ())), (0, (0, ())))), ())), (v7 ((a2.getD 1 ((0, (0, ())), (0, (0, ())))), ())), ())) && ((k9 (a0, a1, (v7 ((a2.getD 0 ((0, (0, ())), (0, (0, ())))), ())), (v7 ((a2.getD 1 ((0, (0, ())), (0, (0, ())))), ())), ())) && ((k8 (a0, a1, (v7 ((a2.getD 0 ((0, (0, ())), (0, (0, ())))), ())), (v7 ((a2.getD 1 ((0, (0, ())), (0, (0, ())))), ())), ())) && (tt 1 ((k7 ((a2.getD 1 ((0, (0, ())), (0, (0, ())))), ())) && (tt 1 (k7 ((a2.getD 0 ((0, (0, ())), (0, (0, ())))), ())))))))))))) then some (v14 (())) else none)
            else
              (bif ((k13 (a0, ())) && ((k12 (a0, ())) && ((k11 (a0, a1, (v7 ((a2.getD 0 ((0, (0, ())), (0, (0, ())))), ())), (v7 ((a2.getD 1 ((0, (0, ())), (0, (0, ())))), ())), ())) && ((k10 (a0, a1, (v7 ((a2.getD 0 ((0, (0, ())), (0, (0, ())))), ())), (v7 ((a2.getD 1 ((0, (0, ())), (0, (0, ())))), ())), ())) && ((k9 (a0, a1, (v7 ((a2.getD 0 ((0, (0, ())), (0, (0, ())))), ())), (v7 ((a2.getD 1 ((0, (0, ())), (0, (0, ())))), ())), ())) && ((k8 (a0, a1, (v7 ((a2.getD 0 ((0, (0, ())), (0, (0, ())))), ())), (v7 ((a2.getD 1 ((0, (0, ())), (0, (0, ())))), ())), ())) && (tt 1 ((k7 ((a2.getD 1 ((0, (0, ())), (0, (0, ())))), ())) && (tt 1 (k7 ((a2.getD 0 ((0, (0, ())), (0, (0, ())))), ()))))))))))) then some false else none))
          else
            (bif ((k11 (a0, a1, (v7 ((a2.getD 0 ((0, (0, ())), (0, (0, ())))), ())), (v7 ((a2.getD 1 ((0, (0, ())), (0, (0, ())))), ())), ())) && ((k10 (a0, a1, (v7 ((a2.getD 0 ((0, (0, ())), (0, (0, ())))), ())), (v7 ((a2.getD 1 ((0, (0, ())), (0, (0, ())))), ())), ())) && ((k9 (a0, a1, (v7 ((a2.getD 0 ((0, (0, ())), (0, (0, ())))), ())), (v7 ((a2.getD 1 ((0, (0, ())), (0, (0, ())))), ())), ())) && ((k8 (a0, a1, (v7 ((a2.getD 0 ((0, (0, ())), (0, (0, ())))), ())), (v7 ((a2.getD 1 ((0, (0, ())), (0, (0, ())))), ())), ())) && (tt 1 ((k7 ((a2.getD 1 ((0, (0, ())), (0, (0, ())))), ())) && (tt 1 (k7 ((a2.getD 0 ((0, (0, ())), (0, (0, ())))), ()))))))))) then some false else none))
        else
          (bif ((k11 (a0, a1, (v7 ((a2.getD 0 ((0, (0, ())), (0, (0, ())))), ())), (v7 ((a2.getD 1 ((0, (0, ())), (0, (0, ())))), ())), ())) && ((k10 (a0, a1, (v7 ((a2.getD 0 ((0, (0, ())), (0, (0, ())))), ())), (v7 ((a2.getD 1 ((0, (0, ())), (0, (0, ())))), ())), ())) && ((k9 (a0, a1, (v7 ((a2.getD 0 ((0, (0, ())), (0, (0, ())))), ())), (v7 ((a2.getD 1 ((0, (0, ())), (0, (0, ())))), ())), ())) && ((k8 (a0, a1, (v7 ((a2.getD 0 ((0, (0, ())), (0, (0, ())))), ())), (v7 ((a2.getD 1 ((0, (0, ())), (0, (0, ())))), ())), ())) && (tt 1 ((k7 ((a2.getD 1 ((0, (0, ())), (0, (0, ())))), ())) && (tt 1 (k7 ((a2.getD 0 ((0, (0, ())), (0, (0, ())))), ()))))))))) then some false else none))
      else
        (bif ((k11 (a0, a1, (v7 ((a2.getD 0 ((0, (0, ())), (0, (0, ())))), ())), (v7 ((a2.getD 1 ((0, (0, ())), (0, (0, ())))), ())), ())) && ((k10 (a0, a1, (v7 ((a2.getD 0 ((0, (0, ())), (0, (0, ())))), ())), (v7 ((a2.getD 1 ((0, (0, ())), (0, (0, ())))), ())), ())) && ((k9 (a0, a1, (v7 ((a2.getD 0 ((0, (0, ())), (0, (0, ())))), ())), (v7 ((a2.getD 1 ((0, (0, ())), (0, (0, ())))), ())), ())) && ((k8 (a0, a1, (v7 ((a2.getD 0 ((0, (0, ())), (0, (0, ())))), ())), (v7 ((a2.getD 1 ((0, (0, ())), (0, (0, ())))), ())), ())) && (tt 1 ((k7 ((a2.getD 1 ((0, (0, ())), (0, (0, ())))), ())) && (tt 1 (k7 ((a2.getD 0 ((0, (0, ())), (0, (0, ())))), ()))))))))) then some false else none))
    else
      (bif ((k11 (a0, a1, (v7 ((a2.getD 0 ((0, (0, ())), (0, (0, ())))), ())), (v7 ((a2.getD 1 ((0, (0, ())), (0, (0, ())))), ())), ())) && ((k10 (a0, a1, (v7 ((a2.getD 0 ((0, (0, ())), (0, (0, ())))), ())), (v7 ((a2.getD 1 ((0, (0, ())), (0, (0, ())))), ())), ())) && ((k9 (a0, a1, (v7 ((a2.getD 0 ((0, (0, ())), (0, (0, ())))), ())), (v7 ((a2.getD 1 ((0, (0, ())), (0, (0, ())))), ())), ())) && ((k8 (a0, a1, (v7 ((a2.getD 0 ((0, (0, ())), (0, (0, ())))), ())), (v7 ((a2.getD 1 ((0, (0, ())), (0, (0, ())))), ())), ())) && (tt 1 ((k7 ((a2.getD 1 ((0, (0, ())), (0, (0, ())))), ())) && (tt 1 (k7 ((a2.getD 0 ((0, (0, ())), (0, (0, ())))), ()))))))))) then some false else none))
  else
    (bif ((k11 (a0, a1, (v7 ((a2.getD 0 ((0, (0, ())), (0, (0, ())))), ())), (v7 ((a2.getD 1 ((0, (0, ())), (0, (0, ())))), ())), ())) && ((k10 (a0, a1, (v7 ((a2.getD 0 ((0, (0, ())), (0, (0, ())))), ())), (v7 ((a2.getD 1 ((0, (0, ())), (0, (0, ())))), ())), ())) && ((k9 (a0, a1, (v7 ((a2.getD 0 ((0, (0, ())), (0, (0, ())))), ())), (v7 ((a2.getD 1 ((0, (0, ())), (0, (0, ())))), ())), ())) && ((k8 (a0, a1, (v7 ((a2.getD 0 ((0, (0, ())), (0, (0, ())))), ())), (v7 ((a2.getD 1 ((0, (0, ())), (0, (0, ())))), ())), ())) && (tt 1 ((k7 ((a2.getD 1 ((0, (0, ())), (0, (0, ())))), ())) && (tt 1 (k7 ((a2.getD 0 ((0, (0, ())), (0, (0, ())))), ()))))))))) then some false else none))
theorem t3 (v7 : (KD0 × Unit) → KD0) (k7 : (KD0 × Unit) → Bool) (v8 : (Int × Bool × KD0 × KD0 × Unit) → KD7) (k8 : (Int × Bool × KD0 × KD0 × Unit) → Bool) (v9 : (Int × Bool × KD0 × KD0 × Unit) → KD7) (k9 : (Int × Bool × KD0 × KD0 × Unit) → Bool) (v10 : (Int × Bool × KD0 × KD0 × Unit) → (Bool × (Bool × Unit))) (k10 : (Int × Bool × KD0 × KD0 × Unit) → Bool) (v11 : (Int × Bool × KD0 × KD0 × Unit) → (Bool × (Bool × Unit))) (k11 : (Int × Bool × KD0 × KD0 × Unit) → Bool) (v12 : (Int × Unit) → Int) (k12 : (Int × Unit) → Bool) (v13 : (Int × Unit) → Int) (k13 : (Int × Unit) → Bool) (v14 : (Unit) → Bool) (k14 : (Unit) → Bool) (a0 : Int) (a1 : Bool) (a2 : (List KD0)) : fnT (CxL Try.Θ (kOf [(7, sm [KT4] KT4 v7 k7), (8, sm [(.int .i64), .bool, KT4, KT4] (.tup KT4 KT5) v8 k8), (9, sm [(.int .i64), .bool, KT4, KT4] (.tup KT4 KT5) v9 k9), (10, sm [(.int .i64), .bool, KT4, KT4] KT8 v10 k10), (11, sm [(.int .i64), .bool, KT4, KT4] KT8 v11 k11), (12, sm [(.int .i64)] (.int .i64) v12 k12), (13, sm [(.int .i64)] (.int .i64) v13 k13), (14, sm [] .bool v14 k14)]) (lOf [])) Try.f3 .bool [⟨(.int .i64), a0⟩, ⟨.bool, a1⟩, ⟨(.arr 2 KT4), a2⟩] = S3 v7 k7 v8 k8 v9 k9 v10 k10 v11 k11 v12 k12 v13 k13 v14 k14 a0 a1 a2 := by kernel_rfl
noncomputable def S35  (a0 : (Int × (Int × Unit))) (a1 : Int) : Option Bool :=
  some (decide ((iandn .u64 (ixor .u64 a1 a0.1) a0.2.1) = 0))
theorem t35  (a0 : (Int × (Int × Unit))) (a1 : Int) : fnT (CxL Try.Θ (kOf []) (lOf [])) Try.f35 .bool [⟨(.pair (.int .u64) KT1), a0⟩, ⟨(.int .u64), a1⟩] = S35  a0 a1 := by kernel_rfl
noncomputable def S17 (v35 : ((Int × (Int × Unit)) × Int × Unit) → Bool) (k35 : ((Int × (Int × Unit)) × Int × Unit) → Bool) (a0 : KD0) (a1 : Int) : Option Bool :=
  (bif (v35 (a0.1, a1, ())) then
    (bif (decide (a1 ≥ a0.2.1)) then
      (bif (tt 1 (k35 (a0.1, a1, ()))) then some (decide (a1 ≤ a0.2.2.1)) else none)
    else
      (bif (tt 1 (k35 (a0.1, a1, ()))) then some false else none))
  else
    (bif (tt 1 (k35 (a0.1, a1, ()))) then some false else none))
theorem t17 (v35 : ((Int × (Int × Unit)) × Int × Unit) → Bool) (k35 : ((Int × (Int × Unit)) × Int × Unit) → Bool) (a0 : KD0) (a1 : Int) : fnT (CxL Try.Θ (kOf [(35, sm [(.pair (.int .u64) KT1), (.int .u64)] .bool v35 k35)]) (lOf [])) Try.f17 .bool [⟨KT4, a0⟩, ⟨(.int .u64), a1⟩] = S17 v35 k35 a0 a1 := by kernel_rfl
def hd15_0 : List It := [.pt 2 ⟨0, [0]⟩, .ow 6 2 (.int .u64), .sl 7 (.int .i64), .bl 0 KT4]
def ys15_0 : Ways := [((.exit 0), []), (.ret, [.sl 4 (.int .u64), .sl 5 .bool])]
noncomputable def R15_0 (v17 : (KD0 × Int × Unit) → Bool) (k17 : (KD0 × Int × Unit) → Bool) (lv0 : (Unit × (List Int) × Int × KD0 × Unit) → ((Unit) ⊕ (Int × Bool × Unit))) (lk0 : (Unit × (List Int) × Int × KD0 × Unit) → Bool) (x0 : Unit) (x1 : (List Int)) (x2 : Int) (x3 : KD0) : Option ((Unit × (List Int) × Int × KD0 × Unit) ⊕ ((Unit) ⊕ (Int × Bool × Unit))) :=
  (bif (decide (x2 < ((x1.length : Nat) : Int))) then
    (bif (v17 (x3, (x1.getD (0 + (Int.toNat x2)) 0), ())) then
      (bif (tt 1 ((tt 1 (decide (((0 + (Int.toNat x2)) : Nat) < x1.length))) && (((decide (0 ≤ x2)) && (decide (x2 < ((x1.length : Nat) : Int)))) && (tt 1 ((k17 (x3, (x1.getD (0 + (Int.toNat x2)) 0), ())) && ((tt 1 (decide (((0 + (Int.toNat x2)) : Nat) < x1.length))) && (tt 1 ((decide (0 ≤ x2)) && (decide (x2 < ((x1.length : Nat) : Int))))))))))) then some (.inr (.inr ((x1.getD (0 + (Int.toNat x2)) 0), true, ()))) else none)
    else
      (bif ((tt 1 (decide (((0 + x1.length) : Nat) ≤ x1.length))) && (tt 2 ((k17 (x3, (x1.getD (0 + (Int.toNat x2)) 0), ())) && ((tt 1 (decide (((0 + (Int.toNat x2)) : Nat) < x1.length))) && (tt 1 ((decide (0 ≤ x2)) && (decide (x2 < ((x1.length : Nat) : Int))))))))) then some (.inl ((), (sec 0 x1 0 x1.length), (IntKind.wrap .i64 (x2 + 1)), x3, ())) else none))
  else
    some (.inr (.inl (()))))
theorem r15_0 (v17 : (KD0 × Int × Unit) → Bool) (k17 : (KD0 × Int × Unit) → Bool) (lv0 : (Unit × (List Int) × Int × KD0 × Unit) → ((Unit) ⊕ (Int × Bool × Unit))) (lk0 : (Unit × (List Int) × Int × KD0 × Unit) → Bool) (x0 : Unit) (x1 : (List Int)) (x2 : Int) (x3 : KD0) : codeT (CxL Try.Θ (kOf [(17, sm [KT4, (.int .u64)] .bool v17 k17)]) (lOf [(0, orc 48 26 0 hd15_0 ys15_0 lv0 lk0)])) (loopB 0 (bodyF Try.f15)) (mkS 48 26 hd15_0 (x0, x1, x2, x3, ())) (leafR 48 hd15_0 ys15_0) = R15_0 v17 k17 lv0 lk0 x0 x1 x2 x3 := by kernel_rfl
noncomputable def S15 (v17 : (KD0 × Int × Unit) → Bool) (k17 : (KD0 × Int × Unit) → Bool) (lv0 : (Unit × (List Int) × Int × KD0 × Unit) → ((Unit) ⊕ (Int × Bool × Unit))) (lk0 : (Unit × (List Int) × Int × KD0 × Unit) → Bool) (a0 : KD0) (a1 : Int) : Option (Int × (Bool × Unit)) :=
  (bif (isL (lv0 ((), [(ior .u64 a0.1.1 (iand .u64 a1 a0.1.2.1)), a0.2.1, a0.2.2.1, a0.1.1, (ior .u64 a0.1.1 a0.1.2.1)], 0, a0, ()))) then
    (bif (tt 1 (lk0 ((), [(ior .u64 a0.1.1 (iand .u64 a1 a0.1.2.1)), a0.2.1, a0.2.2.1, a0.1.1, (ior .u64 a0.1.1 a0.1.2.1)], 0, a0, ()))) then some (0, false, ()) else none)
  else
    (bif (tt 1 (lk0 ((), [(ior .u64 a0.1.1 (iand .u64 a1 a0.1.2.1)), a0.2.1, a0.2.2.1, a0.1.1, (ior .u64 a0.1.1 a0.1.2.1)], 0, a0, ()))) then some ((getR ((0, false, ()) : (Int × Bool × Unit)) (lv0 ((), [(ior .u64 a0.1.1 (iand .u64 a1 a0.1.2.1)), a0.2.1, a0.2.2.1, a0.1.1, (ior .u64 a0.1.1 a0.1.2.1)], 0, a0, ()))).1, (getR ((0, false, ()) : (Int × Bool × Unit)) (lv0 ((), [(ior .u64 a0.1.1 (iand .u64 a1 a0.1.2.1)), a0.2.1, a0.2.2.1, a0.1.1, (ior .u64 a0.1.1 a0.1.2.1)], 0, a0, ()))).2.1, ()) else none))
theorem t15 (v17 : (KD0 × Int × Unit) → Bool) (k17 : (KD0 × Int × Unit) → Bool) (lv0 : (Unit × (List Int) × Int × KD0 × Unit) → ((Unit) ⊕ (Int × Bool × Unit))) (lk0 : (Unit × (List Int) × Int × KD0 × Unit) → Bool) (a0 : KD0) (a1 : Int) : fnT (CxL Try.Θ (kOf [(17, sm [KT4, (.int .u64)] .bool v17 k17)]) (lOf [(0, orc 48 26 0 hd15_0 ys15_0 lv0 lk0)])) Try.f15 KT6 [⟨KT4, a0⟩, ⟨(.int .u64), a1⟩] = S15 v17 k17 lv0 lk0 a0 a1 := by kernel_rfl
noncomputable def S45  (a0 : Int) : Option Int :=
  some (iand .u64 a0 4294967295)
theorem t45  (a0 : Int) : fnT (CxL Try.Θ (kOf []) (lOf [])) Try.f45 (.int .u64) [⟨(.int .u64), a0⟩] = S45  a0 := by kernel_rfl
noncomputable def S34 (v45 : (Int × Unit) → Int) (k45 : (Int × Unit) → Bool) (a0 : Int) (a1 : Bool) (a2 : Int) (a3 : Int) : Option (Bool × (Int × Unit)) :=
  (bif (!a1) then
    (bif (!a1) then
      (bif (decide (a0 = 16)) then
        (bif ((k45 (a3, ())) && (tt 1 (k45 (a2, ())))) then some ((decide ((v45 (a2, ())) = (v45 (a3, ())))), 0, ()) else none)
      else
        (bif (decide (a0 = 32)) then
          (bif ((k45 (a3, ())) && (tt 1 (k45 (a2, ())))) then some ((decide ((v45 (a2, ())) > (v45 (a3, ())))), 0, ()) else none)
        else
          (bif (decide (a0 = 48)) then
            (bif ((k45 (a3, ())) && (tt 1 (k45 (a2, ())))) then some ((decide ((v45 (a2, ())) ≥ (v45 (a3, ())))), 0, ()) else none)
          else
            (bif (decide (a0 = 64)) then
              (bif ((k45 (a3, ())) && (tt 1 (k45 (a2, ())))) then some ((!(decide ((iand .u64 (v45 (a2, ())) (v45 (a3, ()))) = 0))), 0, ()) else none)
            else
              (bif (decide (a0 = 80)) then
                (bif ((k45 (a3, ())) && (tt 1 (k45 (a2, ())))) then some ((!(decide ((v45 (a2, ())) = (v45 (a3, ()))))), 0, ()) else none)
              else
                (bif (decide (a0 = 96)) then
                  (bif ((k45 (a3, ())) && (tt 1 (k45 (a2, ())))) then some ((decide ((IntKind.wrap .i64 (IntKind.wrap .i32 (v45 (a2, ())))) > (IntKind.wrap .i64 (IntKind.wrap .i32 (v45 (a3, ())))))), 0, ()) else none)
                else
                  (bif (decide (a0 = 112)) then
                    (bif ((k45 (a3, ())) && (tt 1 (k45 (a2, ())))) then some ((decide ((IntKind.wrap .i64 (IntKind.wrap .i32 (v45 (a2, ())))) ≥ (IntKind.wrap .i64 (IntKind.wrap .i32 (v45 (a3, ())))))), 0, ()) else none)
                  else
                    (bif (decide (a0 = 160)) then
                      (bif ((k45 (a3, ())) && (tt 1 (k45 (a2, ())))) then some ((decide ((v45 (a2, ())) < (v45 (a3, ())))), 0, ()) else none)
                    else
                      (bif (decide (a0 = 176)) then
                        (bif ((k45 (a3, ())) && (tt 1 (k45 (a2, ())))) then some ((decide ((v45 (a2, ())) ≤ (v45 (a3, ())))), 0, ()) else none)
                      else
                        (bif (decide (a0 = 192)) then
                          (bif ((k45 (a3, ())) && (tt 1 (k45 (a2, ())))) then some ((decide ((IntKind.wrap .i64 (IntKind.wrap .i32 (v45 (a2, ())))) < (IntKind.wrap .i64 (IntKind.wrap .i32 (v45 (a3, ())))))), 0, ()) else none)
                        else
                          (bif (decide (a0 = 208)) then
                            (bif ((k45 (a3, ())) && (tt 1 (k45 (a2, ())))) then some ((decide ((IntKind.wrap .i64 (IntKind.wrap .i32 (v45 (a2, ())))) ≤ (IntKind.wrap .i64 (IntKind.wrap .i32 (v45 (a3, ())))))), 0, ()) else none)
                          else
                            (bif ((k45 (a3, ())) && (tt 1 (k45 (a2, ())))) then some (false, 1, ()) else none))))))))))))
    else
      (bif (decide (a0 = 16)) then
        (bif ((k45 (a3, ())) && (tt 1 (k45 (a2, ())))) then some ((decide ((v45 (a2, ())) = (v45 (a3, ())))), 0, ()) else none)
      else
        (bif (decide (a0 = 32)) then
          (bif ((k45 (a3, ())) && (tt 1 (k45 (a2, ())))) then some ((decide ((v45 (a2, ())) > (v45 (a3, ())))), 0, ()) else none)
        else
          (bif (decide (a0 = 48)) then
            (bif ((k45 (a3, ())) && (tt 1 (k45 (a2, ())))) then some ((decide ((v45 (a2, ())) ≥ (v45 (a3, ())))), 0, ()) else none)
          else
            (bif (decide (a0 = 64)) then
              (bif ((k45 (a3, ())) && (tt 1 (k45 (a2, ())))) then some ((!(decide ((iand .u64 (v45 (a2, ())) (v45 (a3, ()))) = 0))), 0, ()) else none)
            else
              (bif (decide (a0 = 80)) then
                (bif ((k45 (a3, ())) && (tt 1 (k45 (a2, ())))) then some ((!(decide ((v45 (a2, ())) = (v45 (a3, ()))))), 0, ()) else none)
              else
                (bif (decide (a0 = 96)) then
                  (bif ((k45 (a3, ())) && (tt 1 (k45 (a2, ())))) then some ((decide ((IntKind.wrap .i64 (v45 (a2, ()))) > (IntKind.wrap .i64 (v45 (a3, ()))))), 0, ()) else none)
                else
                  (bif (decide (a0 = 112)) then
                    (bif ((k45 (a3, ())) && (tt 1 (k45 (a2, ())))) then some ((decide ((IntKind.wrap .i64 (v45 (a2, ()))) ≥ (IntKind.wrap .i64 (v45 (a3, ()))))), 0, ()) else none)
                  else
                    (bif (decide (a0 = 160)) then
                      (bif ((k45 (a3, ())) && (tt 1 (k45 (a2, ())))) then some ((decide ((v45 (a2, ())) < (v45 (a3, ())))), 0, ()) else none)
                    else
                      (bif (decide (a0 = 176)) then
                        (bif ((k45 (a3, ())) && (tt 1 (k45 (a2, ())))) then some ((decide ((v45 (a2, ())) ≤ (v45 (a3, ())))), 0, ()) else none)
                      else
                        (bif (decide (a0 = 192)) then
                          (bif ((k45 (a3, ())) && (tt 1 (k45 (a2, ())))) then some ((decide ((IntKind.wrap .i64 (v45 (a2, ()))) < (IntKind.wrap .i64 (v45 (a3, ()))))), 0, ()) else none)
                        else
                          (bif (decide (a0 = 208)) then
                            (bif ((k45 (a3, ())) && (tt 1 (k45 (a2, ())))) then some ((decide ((IntKind.wrap .i64 (v45 (a2, ()))) ≤ (IntKind.wrap .i64 (v45 (a3, ()))))), 0, ()) else none)
                          else
                            (bif ((k45 (a3, ())) && (tt 1 (k45 (a2, ())))) then some (false, 1, ()) else none)))))))))))))
  else
    (bif (!a1) then
      (bif (decide (a0 = 16)) then
        some ((decide (a2 = a3)), 0, ())
      else
        (bif (decide (a0 = 32)) then
          some ((decide (a2 > a3)), 0, ())
        else
          (bif (decide (a0 = 48)) then
            some ((decide (a2 ≥ a3)), 0, ())
          else
            (bif (decide (a0 = 64)) then
              some ((!(decide ((iand .u64 a2 a3) = 0))), 0, ())
            else
              (bif (decide (a0 = 80)) then
                some ((!(decide (a2 = a3))), 0, ())
              else
                (bif (decide (a0 = 96)) then
                  some ((decide ((IntKind.wrap .i64 (IntKind.wrap .i32 a2)) > (IntKind.wrap .i64 (IntKind.wrap .i32 a3)))), 0, ())
                else
                  (bif (decide (a0 = 112)) then
                    some ((decide ((IntKind.wrap .i64 (IntKind.wrap .i32 a2)) ≥ (IntKind.wrap .i64 (IntKind.wrap .i32 a3)))), 0, ())
                  else
                    (bif (decide (a0 = 160)) then
                      some ((decide (a2 < a3)), 0, ())
                    else
                      (bif (decide (a0 = 176)) then
                        some ((decide (a2 ≤ a3)), 0, ())
                      else
                        (bif (decide (a0 = 192)) then
                          some ((decide ((IntKind.wrap .i64 (IntKind.wrap .i32 a2)) < (IntKind.wrap .i64 (IntKind.wrap .i32 a3)))), 0, ())
                        else
                          (bif (decide (a0 = 208)) then
                            some ((decide ((IntKind.wrap .i64 (IntKind.wrap .i32 a2)) ≤ (IntKind.wrap .i64 (IntKind.wrap .i32 a3)))), 0, ())
                          else
                            some (false, 1, ()))))))))))))
    else
      (bif (decide (a0 = 16)) then
        some ((decide (a2 = a3)), 0, ())
      else
        (bif (decide (a0 = 32)) then
          some ((decide (a2 > a3)), 0, ())
        else
          (bif (decide (a0 = 48)) then
            some ((decide (a2 ≥ a3)), 0, ())
          else
            (bif (decide (a0 = 64)) then
              some ((!(decide ((iand .u64 a2 a3) = 0))), 0, ())
            else
              (bif (decide (a0 = 80)) then
                some ((!(decide (a2 = a3))), 0, ())
              else
                (bif (decide (a0 = 96)) then
                  some ((decide ((IntKind.wrap .i64 a2) > (IntKind.wrap .i64 a3))), 0, ())
                else
                  (bif (decide (a0 = 112)) then
                    some ((decide ((IntKind.wrap .i64 a2) ≥ (IntKind.wrap .i64 a3))), 0, ())
                  else
                    (bif (decide (a0 = 160)) then
                      some ((decide (a2 < a3)), 0, ())
                    else
                      (bif (decide (a0 = 176)) then
                        some ((decide (a2 ≤ a3)), 0, ())
                      else
                        (bif (decide (a0 = 192)) then
                          some ((decide ((IntKind.wrap .i64 a2) < (IntKind.wrap .i64 a3))), 0, ())
                        else
                          (bif (decide (a0 = 208)) then some ((decide ((IntKind.wrap .i64 a2) ≤ (IntKind.wrap .i64 a3))), 0, ()) else some (false, 1, ()))))))))))))))
theorem t34 (v45 : (Int × Unit) → Int) (k45 : (Int × Unit) → Bool) (a0 : Int) (a1 : Bool) (a2 : Int) (a3 : Int) : fnT (CxL Try.Θ (kOf [(45, sm [(.int .u64)] (.int .u64) v45 k45)]) (lOf [])) Try.f34 (.tup .bool KT9) [⟨(.int .i64), a0⟩, ⟨.bool, a1⟩, ⟨(.int .u64), a2⟩, ⟨(.int .u64), a3⟩] = S34 v45 k45 a0 a1 a2 a3 := by kernel_rfl
noncomputable def S16 (v34 : (Int × Bool × Int × Int × Unit) → (Bool × (Int × Unit))) (k34 : (Int × Bool × Int × Int × Unit) → Bool) (a0 : Int) (a1 : Bool) (a2 : Int) (a3 : Int) : Option (Bool × (Bool × Unit)) :=
  (bif (decide (a0 = 68)) then
    (bif (tt 1 (k34 (64, a1, a2, a3, ()))) then some ((!(v34 (64, a1, a2, a3, ())).1), true, ()) else none)
  else
    (bif (tt 1 (k34 (a0, a1, a2, a3, ()))) then some ((v34 (a0, a1, a2, a3, ())).1, (decide ((v34 (a0, a1, a2, a3, ())).2.1 = 0)), ()) else none))
theorem t16 (v34 : (Int × Bool × Int × Int × Unit) → (Bool × (Int × Unit))) (k34 : (Int × Bool × Int × Int × Unit) → Bool) (a0 : Int) (a1 : Bool) (a2 : Int) (a3 : Int) : fnT (CxL Try.Θ (kOf [(34, sm [(.int .i64), .bool, (.int .u64), (.int .u64)] (.tup .bool KT9) v34 k34)]) (lOf [])) Try.f16 KT8 [⟨(.int .i64), a0⟩, ⟨.bool, a1⟩, ⟨(.int .u64), a2⟩, ⟨(.int .u64), a3⟩] = S16 v34 k34 a0 a1 a2 a3 := by kernel_rfl
def hd4_0 : List It := [.sl 0 (.int .i64), .sl 1 .bool, .pt 7 ⟨7, [0]⟩, .pt 8 ⟨8, [0]⟩, .pt 9 ⟨11, [0]⟩, .pt 10 ⟨12, [0]⟩, .sl 11 .bool, .ow 12 41 (.int .u64), .ow 13 42 (.int .u64), .sl 14 (.int .i64), .bl 7 KT4, .bl 8 KT4, .bl 11 KT4, .bl 12 KT4]
def ys4_0 : Ways := [((.exit 0), []), (.ret, [.sl 6 .bool])]
noncomputable def R4_0 (v7 : (KD0 × Unit) → KD0) (k7 : (KD0 × Unit) → Bool) (v8 : (Int × Bool × KD0 × KD0 × Unit) → KD7) (k8 : (Int × Bool × KD0 × KD0 × Unit) → Bool) (v14 : (Unit) → Bool) (k14 : (Unit) → Bool) (v15 : (KD0 × Int × Unit) → (Int × (Bool × Unit))) (k15 : (KD0 × Int × Unit) → Bool) (v16 : (Int × Bool × Int × Int × Unit) → (Bool × (Bool × Unit))) (k16 : (Int × Bool × Int × Int × Unit) → Bool) (v17 : (KD0 × Int × Unit) → Bool) (k17 : (KD0 × Int × Unit) → Bool) (lv0 : (Int × Bool × Unit × Unit × Unit × Unit × Bool × (List Int) × (List Int) × Int × KD0 × KD0 × KD0 × KD0 × Unit) → ((Unit) ⊕ (Bool × Unit))) (lk0 : (Int × Bool × Unit × Unit × Unit × Unit × Bool × (List Int) × (List Int) × Int × KD0 × KD0 × KD0 × KD0 × Unit) → Bool) (x0 : Int) (x1 : Bool) (x2 : Unit) (x3 : Unit) (x4 : Unit) (x5 : Unit) (x6 : Bool) (x7 : (List Int)) (x8 : (List Int)) (x9 : Int) (x10 : KD0) (x11 : KD0) (x12 : KD0) (x13 : KD0) : Option ((Int × Bool × Unit × Unit × Unit × Unit × Bool × (List Int) × (List Int) × Int × KD0 × KD0 × KD0 × KD0 × Unit) ⊕ ((Unit) ⊕ (Bool × Unit))) :=
  (bif (decide (x9 < 4)) then
    (bif (!(v15 (x10, (x7.getD (0 + (Int.toNat x9)) 0), ())).2.1) then
      (bif (((decide (((0 + x7.length) : Nat) ≤ x7.length)) && (tt 1 (decide (((0 + x8.length) : Nat) ≤ x8.length)))) && (tt 1 (((k15 (x11, (x8.getD (0 + (Int.toNat x9)) 0), ())) && ((tt 1 (decide (((0 + (Int.toNat x9)) : Nat) < x8.length))) && (tt 1 ((decide (0 ≤ x9)) && (decide (x9 < ((x8.length : Nat) : Int))))))) && (tt 1 ((k15 (x10, (x7.getD (0 + (Int.toNat x9)) 0), ())) && ((tt 1 (decide (((0 + (Int.toNat x9)) : Nat) < x7.length))) && (tt 1 ((decide (0 ≤ x9)) && (decide (x9 < ((x7.length : Nat) : Int))))))))))) then some (.inl (x0, x1, (), (), (), (), x6, (sec 0 x7 0 x7.length), (sec 0 x8 0 x8.length), (IntKind.wrap .i64 (x9 + 1)), x10, x11, x12, x13, ())) else none)
    else
      (bif (!(v15 (x11, (x8.getD (0 + (Int.toNat x9)) 0), ())).2.1) then
        (bif (((decide (((0 + x7.length) : Nat) ≤ x7.length)) && (tt 1 (decide (((0 + x8.length) : Nat) ≤ x8.length)))) && (tt 1 (((k15 (x11, (x8.getD (0 + (Int.toNat x9)) 0), ())) && ((tt 1 (decide (((0 + (Int.toNat x9)) : Nat) < x8.length))) && (tt 1 ((decide (0 ≤ x9)) && (decide (x9 < ((x8.length : Nat) : Int))))))) && (tt 1 ((k15 (x10, (x7.getD (0 + (Int.toNat x9)) 0), ())) && ((tt 1 (decide (((0 + (Int.toNat x9)) : Nat) < x7.length))) && (tt 1 ((decide (0 ≤ x9)) && (decide (x9 < ((x7.length : Nat) : Int))))))))))) then some (.inl (x0, x1, (), (), (), (), x6, (sec 0 x7 0 x7.length), (sec 0 x8 0 x8.length), (IntKind.wrap .i64 (x9 + 1)), x10, x11, x12, x13, ())) else none)
      else
        (bif (v16 (x0, x1, (v15 (x10, (x7.getD (0 + (Int.toNat x9)) 0), ())).1, (v15 (x11, (x8.getD (0 + (Int.toNat x9)) 0), ())).1, ())).2.1 then
          (bif (v16 (x0, x1, (v15 (x10, (x7.getD (0 + (Int.toNat x9)) 0), ())).1, (v15 (x11, (x8.getD (0 + (Int.toNat x9)) 0), ())).1, ())).1 then
            (bif (!x6) then
              (bif (tt 1 ((k16 (x0, x1, (v15 (x10, (x7.getD (0 + (Int.toNat x9)) 0), ())).1, (v15 (x11, (x8.getD (0 + (Int.toNat x9)) 0), ())).1, ())) && (((k15 (x11, (x8.getD (0 + (Int.toNat x9)) 0), ())) && ((tt 1 (decide (((0 + (Int.toNat x9)) : Nat) < x8.length))) && (tt 1 ((decide (0 ≤ x9)) && (decide (x9 < ((x8.length : Nat) : Int))))))) && (tt 1 ((k15 (x10, (x7.getD (0 + (Int.toNat x9)) 0), ())) && ((tt 1 (decide (((0 + (Int.toNat x9)) : Nat) < x7.length))) && (tt 1 ((decide (0 ≤ x9)) && (decide (x9 < ((x7.length : Nat) : Int))))))))))) then some (.inr (.inr (false, ()))) else none)
            else
              (bif (!(v17 (x12, (v15 (x10, (x7.getD (0 + (Int.toNat x9)) 0), ())).1, ()))) then
                (bif (tt 1 ((k17 (x12, (v15 (x10, (x7.getD (0 + (Int.toNat x9)) 0), ())).1, ())) && ((k16 (x0, x1, (v15 (x10, (x7.getD (0 + (Int.toNat x9)) 0), ())).1, (v15 (x11, (x8.getD (0 + (Int.toNat x9)) 0), ())).1, ())) && (((k15 (x11, (x8.getD (0 + (Int.toNat x9)) 0), ())) && ((tt 1 (decide (((0 + (Int.toNat x9)) : Nat) < x8.length))) && (tt 1 ((decide (0 ≤ x9)) && (decide (x9 < ((x8.length : Nat) : Int))))))) && (tt 1 ((k15 (x10, (x7.getD (0 + (Int.toNat x9)) 0), ())) && ((tt 1 (decide (((0 + (Int.toNat x9)) : Nat) < x7.length))) && (tt 1 ((decide (0 ≤ x9)) && (decide (x9 < ((x7.length : Nat) : Int)))))))))))) then some (.inr (.inr (false, ()))) else none)
              else
                (bif (!(v17 (x13, (v15 (x11, (x8.getD (0 + (Int.toNat x9)) 0), ())).1, ()))) then
                  (bif (tt 1 ((k17 (x13, (v15 (x11, (x8.getD (0 + (Int.toNat x9)) 0), ())).1, ())) && ((k17 (x12, (v15 (x10, (x7.getD (0 + (Int.toNat x9)) 0), ())).1, ())) && ((k16 (x0, x1, (v15 (x10, (x7.getD (0 + (Int.toNat x9)) 0), ())).1, (v15 (x11, (x8.getD (0 + (Int.toNat x9)) 0), ())).1, ())) && (((k15 (x11, (x8.getD (0 + (Int.toNat x9)) 0), ())) && ((tt 1 (decide (((0 + (Int.toNat x9)) : Nat) < x8.length))) && (tt 1 ((decide (0 ≤ x9)) && (decide (x9 < ((x8.length : Nat) : Int))))))) && (tt 1 ((k15 (x10, (x7.getD (0 + (Int.toNat x9)) 0), ())) && ((tt 1 (decide (((0 + (Int.toNat x9)) : Nat) < x7.length))) && (tt 1 ((decide (0 ≤ x9)) && (decide (x9 < ((x7.length : Nat) : Int))))))))))))) then some (.inr (.inr (false, ()))) else none)
                else
                  (bif (((decide (((0 + x7.length) : Nat) ≤ x7.length)) && (tt 1 (decide (((0 + x8.length) : Nat) ≤ x8.length)))) && (tt 1 ((k17 (x13, (v15 (x11, (x8.getD (0 + (Int.toNat x9)) 0), ())).1, ())) && ((k17 (x12, (v15 (x10, (x7.getD (0 + (Int.toNat x9)) 0), ())).1, ())) && ((k16 (x0, x1, (v15 (x10, (x7.getD (0 + (Int.toNat x9)) 0), ())).1, (v15 (x11, (x8.getD (0 + (Int.toNat x9)) 0), ())).1, ())) && (((k15 (x11, (x8.getD (0 + (Int.toNat x9)) 0), ())) && ((tt 1 (decide (((0 + (Int.toNat x9)) : Nat) < x8.length))) && (tt 1 ((decide (0 ≤ x9)) && (decide (x9 < ((x8.length : Nat) : Int))))))) && (tt 1 ((k15 (x10, (x7.getD (0 + (Int.toNat x9)) 0), ())) && ((tt 1 (decide (((0 + (Int.toNat x9)) : Nat) < x7.length))) && (tt 1 ((decide (0 ≤ x9)) && (decide (x9 < ((x7.length : Nat) : Int)))))))))))))) then some (.inl (x0, x1, (), (), (), (), x6, (sec 0 x7 0 x7.length), (sec 0 x8 0 x8.length), (IntKind.wrap .i64 (x9 + 1)), x10, x11, x12, x13, ())) else none))))
          else
            (bif (((decide (((0 + x7.length) : Nat) ≤ x7.length)) && (tt 1 (decide (((0 + x8.length) : Nat) ≤ x8.length)))) && (tt 1 ((k16 (x0, x1, (v15 (x10, (x7.getD (0 + (Int.toNat x9)) 0), ())).1, (v15 (x11, (x8.getD (0 + (Int.toNat x9)) 0), ())).1, ())) && (((k15 (x11, (x8.getD (0 + (Int.toNat x9)) 0), ())) && ((tt 1 (decide (((0 + (Int.toNat x9)) : Nat) < x8.length))) && (tt 1 ((decide (0 ≤ x9)) && (decide (x9 < ((x8.length : Nat) : Int))))))) && (tt 1 ((k15 (x10, (x7.getD (0 + (Int.toNat x9)) 0), ())) && ((tt 1 (decide (((0 + (Int.toNat x9)) : Nat) < x7.length))) && (tt 1 ((decide (0 ≤ x9)) && (decide (x9 < ((x7.length : Nat) : Int)))))))))))) then some (.inl (x0, x1, (), (), (), (), x6, (sec 0 x7 0 x7.length), (sec 0 x8 0 x8.length), (IntKind.wrap .i64 (x9 + 1)), x10, x11, x12, x13, ())) else none))
        else
          (bif (((decide (((0 + x7.length) : Nat) ≤ x7.length)) && (tt 1 (decide (((0 + x8.length) : Nat) ≤ x8.length)))) && (tt 1 ((k16 (x0, x1, (v15 (x10, (x7.getD (0 + (Int.toNat x9)) 0), ())).1, (v15 (x11, (x8.getD (0 + (Int.toNat x9)) 0), ())).1, ())) && (((k15 (x11, (x8.getD (0 + (Int.toNat x9)) 0), ())) && ((tt 1 (decide (((0 + (Int.toNat x9)) : Nat) < x8.length))) && (tt 1 ((decide (0 ≤ x9)) && (decide (x9 < ((x8.length : Nat) : Int))))))) && (tt 1 ((k15 (x10, (x7.getD (0 + (Int.toNat x9)) 0), ())) && ((tt 1 (decide (((0 + (Int.toNat x9)) : Nat) < x7.length))) && (tt 1 ((decide (0 ≤ x9)) && (decide (x9 < ((x7.length : Nat) : Int)))))))))))) then some (.inl (x0, x1, (), (), (), (), x6, (sec 0 x7 0 x7.length), (sec 0 x8 0 x8.length), (IntKind.wrap .i64 (x9 + 1)), x10, x11, x12, x13, ())) else none))))
  else
    some (.inr (.inl (()))))
theorem r4_0 (v7 : (KD0 × Unit) → KD0) (k7 : (KD0 × Unit) → Bool) (v8 : (Int × Bool × KD0 × KD0 × Unit) → KD7) (k8 : (Int × Bool × KD0 × KD0 × Unit) → Bool) (v14 : (Unit) → Bool) (k14 : (Unit) → Bool) (v15 : (KD0 × Int × Unit) → (Int × (Bool × Unit))) (k15 : (KD0 × Int × Unit) → Bool) (v16 : (Int × Bool × Int × Int × Unit) → (Bool × (Bool × Unit))) (k16 : (Int × Bool × Int × Int × Unit) → Bool) (v17 : (KD0 × Int × Unit) → Bool) (k17 : (KD0 × Int × Unit) → Bool) (lv0 : (Int × Bool × Unit × Unit × Unit × Unit × Bool × (List Int) × (List Int) × Int × KD0 × KD0 × KD0 × KD0 × Unit) → ((Unit) ⊕ (Bool × Unit))) (lk0 : (Int × Bool × Unit × Unit × Unit × Unit × Bool × (List Int) × (List Int) × Int × KD0 × KD0 × KD0 × KD0 × Unit) → Bool) (x0 : Int) (x1 : Bool) (x2 : Unit) (x3 : Unit) (x4 : Unit) (x5 : Unit) (x6 : Bool) (x7 : (List Int)) (x8 : (List Int)) (x9 : Int) (x10 : KD0) (x11 : KD0) (x12 : KD0) (x13 : KD0) : codeT (CxL Try.Θ (kOf [(7, sm [KT4] KT4 v7 k7), (8, sm [(.int .i64), .bool, KT4, KT4] (.tup KT4 KT5) v8 k8), (14, sm [] .bool v14 k14), (15, sm [KT4, (.int .u64)] KT6 v15 k15), (16, sm [(.int .i64), .bool, (.int .u64), (.int .u64)] KT8 v16 k16), (17, sm [KT4, (.int .u64)] .bool v17 k17)]) (lOf [(0, orc 119 65 0 hd4_0 ys4_0 lv0 lk0)])) (loopB 0 (bodyF Try.f4)) (mkS 119 65 hd4_0 (x0, x1, x2, x3, x4, x5, x6, x7, x8, x9, x10, x11, x12, x13, ())) (leafR 119 hd4_0 ys4_0) = R4_0 v7 k7 v8 k8 v14 k14 v15 k15 v16 k16 v17 k17 lv0 lk0 x0 x1 x2 x3 x4 x5 x6 x7 x8 x9 x10 x11 x12 x13 := by kernel_rfl
noncomputable def S4 (v7 : (KD0 × Unit) → KD0) (k7 : (KD0 × Unit) → Bool) (v8 : (Int × Bool × KD0 × KD0 × Unit) → KD7) (k8 : (Int × Bool × KD0 × KD0 × Unit) → Bool) (v14 : (Unit) → Bool) (k14 : (Unit) → Bool) (v15 : (KD0 × Int × Unit) → (Int × (Bool × Unit))) (k15 : (KD0 × Int × Unit) → Bool) (v16 : (Int × Bool × Int × Int × Unit) → (Bool × (Bool × Unit))) (k16 : (Int × Bool × Int × Int × Unit) → Bool) (v17 : (KD0 × Int × Unit) → Bool) (k17 : (KD0 × Int × Unit) → Bool) (lv0 : (Int × Bool × Unit × Unit × Unit × Unit × Bool × (List Int) × (List Int) × Int × KD0 × KD0 × KD0 × KD0 × Unit) → ((Unit) ⊕ (Bool × Unit))) (lk0 : (Int × Bool × Unit × Unit × Unit × Unit × Bool × (List Int) × (List Int) × Int × KD0 × KD0 × KD0 × KD0 × Unit) → Bool) (a0 : Int) (a1 : Bool) (a2 : (List KD0)) : Option Bool :=
  (bif (isL (lv0 (a0, a1, (), (), (), (), (v8 (a0, a1, (v7 ((a2.getD 0 ((0, (0, ())), (0, (0, ())))), ())), (v7 ((a2.getD 1 ((0, (0, ())), (0, (0, ())))), ())), ())).2.2.1, [(a2.getD 0 ((0, (0, ())), (0, (0, ())))).2.1, (a2.getD 0 ((0, (0, ())), (0, (0, ())))).2.2.1, (a2.getD 1 ((0, (0, ())), (0, (0, ())))).2.2.1, (a2.getD 1 ((0, (0, ())), (0, (0, ())))).2.1], [(a2.getD 1 ((0, (0, ())), (0, (0, ())))).2.1, (a2.getD 1 ((0, (0, ())), (0, (0, ())))).2.2.1, (a2.getD 0 ((0, (0, ())), (0, (0, ())))).2.2.1, (a2.getD 0 ((0, (0, ())), (0, (0, ())))).2.1], 0, (v7 ((a2.getD 0 ((0, (0, ())), (0, (0, ())))), ())), (v7 ((a2.getD 1 ((0, (0, ())), (0, (0, ())))), ())), (v8 (a0, a1, (v7 ((a2.getD 0 ((0, (0, ())), (0, (0, ())))), ())), (v7 ((a2.getD 1 ((0, (0, ())), (0, (0, ())))), ())), ())).1, (v8 (a0, a1, (v7 ((a2.getD 0 ((0, (0, ())), (0, (0, ())))), ())), (v7 ((a2.getD 1 ((0, (0, ())), (0, (0, ())))), ())), ())).2.1, ()))) then
    (bif ((k14 (())) && ((lk0 (a0, a1, (), (), (), (), (v8 (a0, a1, (v7 ((a2.getD 0 ((0, (0, ())), (0, (0, ())))), ())), (v7 ((a2.getD 1 ((0, (0, ())), (0, (0, ())))), ())), ())).2.2.1, [(a2.getD 0 ((0, (0, ())), (0, (0, ())))).2.1, (a2.getD 0 ((0, (0, ())), (0, (0, ())))).2.2.1, (a2.getD 1 ((0, (0, ())), (0, (0, ())))).2.2.1, (a2.getD 1 ((0, (0, ())), (0, (0, ())))).2.1], [(a2.getD 1 ((0, (0, ())), (0, (0, ())))).2.1, (a2.getD 1 ((0, (0, ())), (0, (0, ())))).2.2.1, (a2.getD 0 ((0, (0, ())), (0, (0, ())))).2.2.1, (a2.getD 0 ((0, (0, ())), (0, (0, ())))).2.1], 0, (v7 ((a2.getD 0 ((0, (0, ())), (0, (0, ())))), ())), (v7 ((a2.getD 1 ((0, (0, ())), (0, (0, ())))), ())), (v8 (a0, a1, (v7 ((a2.getD 0 ((0, (0, ())), (0, (0, ())))), ())), (v7 ((a2.getD 1 ((0, (0, ())), (0, (0, ())))), ())), ())).1, (v8 (a0, a1, (v7 ((a2.getD 0 ((0, (0, ())), (0, (0, ())))), ())), (v7 ((a2.getD 1 ((0, (0, ())), (0, (0, ())))), ())), ())).2.1, ())) && (tt 1 ((k8 (a0, a1, (v7 ((a2.getD 0 ((0, (0, ())), (0, (0, ())))), ())), (v7 ((a2.getD 1 ((0, (0, ())), (0, (0, ())))), ())), ())) && (tt 1 ((k7 ((a2.getD 1 ((0, (0, ())), (0, (0, ())))), ())) && (tt 1 (k7 ((a2.getD 0 ((0, (0, ())), (0, (0, ())))), ()))))))))) then some (v14 (())) else none)
  else
    (bif ((lk0 (a0, a1, (), (), (), (), (v8 (a0, a1, (v7 ((a2.getD 0 ((0, (0, ())), (0, (0, ())))), ())), (v7 ((a2.getD 1 ((0, (0, ())), (0, (0, ())))), ())), ())).2.2.1, [(a2.getD 0 ((0, (0, ())), (0, (0, ())))).2.1, (a2.getD 0 ((0, (0, ())), (0, (0, ())))).2.2.1, (a2.getD 1 ((0, (0, ())), (0, (0, ())))).2.2.1, (a2.getD 1 ((0, (0, ())), (0, (0, ())))).2.1], [(a2.getD 1 ((0, (0, ())), (0, (0, ())))).2.1, (a2.getD 1 ((0, (0, ())), (0, (0, ())))).2.2.1, (a2.getD 0 ((0, (0, ())), (0, (0, ())))).2.2.1, (a2.getD 0 ((0, (0, ())), (0, (0, ())))).2.1], 0, (v7 ((a2.getD 0 ((0, (0, ())), (0, (0, ())))), ())), (v7 ((a2.getD 1 ((0, (0, ())), (0, (0, ())))), ())), (v8 (a0, a1, (v7 ((a2.getD 0 ((0, (0, ())), (0, (0, ())))), ())), (v7 ((a2.getD 1 ((0, (0, ())), (0, (0, ())))), ())), ())).1, (v8 (a0, a1, (v7 ((a2.getD 0 ((0, (0, ())), (0, (0, ())))), ())), (v7 ((a2.getD 1 ((0, (0, ())), (0, (0, ())))), ())), ())).2.1, ())) && (tt 1 ((k8 (a0, a1, (v7 ((a2.getD 0 ((0, (0, ())), (0, (0, ())))), ())), (v7 ((a2.getD 1 ((0, (0, ())), (0, (0, ())))), ())), ())) && (tt 1 ((k7 ((a2.getD 1 ((0, (0, ())), (0, (0, ())))), ())) && (tt 1 (k7 ((a2.getD 0 ((0, (0, ())), (0, (0, ())))), ())))))))) then some (getR ((false, ()) : (Bool × Unit)) (lv0 (a0, a1, (), (), (), (), (v8 (a0, a1, (v7 ((a2.getD 0 ((0, (0, ())), (0, (0, ())))), ())), (v7 ((a2.getD 1 ((0, (0, ())), (0, (0, ())))), ())), ())).2.2.1, [(a2.getD 0 ((0, (0, ())), (0, (0, ())))).2.1, (a2.getD 0 ((0, (0, ())), (0, (0, ())))).2.2.1, (a2.getD 1 ((0, (0, ())), (0, (0, ())))).2.2.1, (a2.getD 1 ((0, (0, ())), (0, (0, ())))).2.1], [(a2.getD 1 ((0, (0, ())), (0, (0, ())))).2.1, (a2.getD 1 ((0, (0, ())), (0, (0, ())))).2.2.1, (a2.getD 0 ((0, (0, ())), (0, (0, ())))).2.2.1, (a2.getD 0 ((0, (0, ())), (0, (0, ())))).2.1], 0, (v7 ((a2.getD 0 ((0, (0, ())), (0, (0, ())))), ())), (v7 ((a2.getD 1 ((0, (0, ())), (0, (0, ())))), ())), (v8 (a0, a1, (v7 ((a2.getD 0 ((0, (0, ())), (0, (0, ())))), ())), (v7 ((a2.getD 1 ((0, (0, ())), (0, (0, ())))), ())), ())).1, (v8 (a0, a1, (v7 ((a2.getD 0 ((0, (0, ())), (0, (0, ())))), ())), (v7 ((a2.getD 1 ((0, (0, ())), (0, (0, ())))), ())), ())).2.1, ()))).1 else none))
theorem t4 (v7 : (KD0 × Unit) → KD0) (k7 : (KD0 × Unit) → Bool) (v8 : (Int × Bool × KD0 × KD0 × Unit) → KD7) (k8 : (Int × Bool × KD0 × KD0 × Unit) → Bool) (v14 : (Unit) → Bool) (k14 : (Unit) → Bool) (v15 : (KD0 × Int × Unit) → (Int × (Bool × Unit))) (k15 : (KD0 × Int × Unit) → Bool) (v16 : (Int × Bool × Int × Int × Unit) → (Bool × (Bool × Unit))) (k16 : (Int × Bool × Int × Int × Unit) → Bool) (v17 : (KD0 × Int × Unit) → Bool) (k17 : (KD0 × Int × Unit) → Bool) (lv0 : (Int × Bool × Unit × Unit × Unit × Unit × Bool × (List Int) × (List Int) × Int × KD0 × KD0 × KD0 × KD0 × Unit) → ((Unit) ⊕ (Bool × Unit))) (lk0 : (Int × Bool × Unit × Unit × Unit × Unit × Bool × (List Int) × (List Int) × Int × KD0 × KD0 × KD0 × KD0 × Unit) → Bool) (a0 : Int) (a1 : Bool) (a2 : (List KD0)) : fnT (CxL Try.Θ (kOf [(7, sm [KT4] KT4 v7 k7), (8, sm [(.int .i64), .bool, KT4, KT4] (.tup KT4 KT5) v8 k8), (14, sm [] .bool v14 k14), (15, sm [KT4, (.int .u64)] KT6 v15 k15), (16, sm [(.int .i64), .bool, (.int .u64), (.int .u64)] KT8 v16 k16), (17, sm [KT4, (.int .u64)] .bool v17 k17)]) (lOf [(0, orc 119 65 0 hd4_0 ys4_0 lv0 lk0)])) Try.f4 .bool [⟨(.int .i64), a0⟩, ⟨.bool, a1⟩, ⟨(.arr 2 KT4), a2⟩] = S4 v7 k7 v8 k8 v14 k14 v15 k15 v16 k16 v17 k17 lv0 lk0 a0 a1 a2 := by kernel_rfl
noncomputable def S5 (v7 : (KD0 × Unit) → KD0) (k7 : (KD0 × Unit) → Bool) (v10 : (Int × Bool × KD0 × KD0 × Unit) → (Bool × (Bool × Unit))) (k10 : (Int × Bool × KD0 × KD0 × Unit) → Bool) (v14 : (Unit) → Bool) (k14 : (Unit) → Bool) (v15 : (KD0 × Int × Unit) → (Int × (Bool × Unit))) (k15 : (KD0 × Int × Unit) → Bool) (v16 : (Int × Bool × Int × Int × Unit) → (Bool × (Bool × Unit))) (k16 : (Int × Bool × Int × Int × Unit) → Bool) (a0 : Int) (a1 : Bool) (a2 : (List KD0)) : Option Bool :=
  (bif (!(v10 (a0, a1, (v7 ((a2.getD 0 ((0, (0, ())), (0, (0, ())))), ())), (v7 ((a2.getD 1 ((0, (0, ())), (0, (0, ())))), ())), ())).2.1) then
    (bif (v10 (a0, a1, (v7 ((a2.getD 0 ((0, (0, ())), (0, (0, ())))), ())), (v7 ((a2.getD 1 ((0, (0, ())), (0, (0, ())))), ())), ())).2.1 then
      (bif ((k14 (())) && ((k15 ((v7 ((a2.getD 1 ((0, (0, ())), (0, (0, ())))), ())), (a2.getD 0 ((0, (0, ())), (0, (0, ())))).2.2.1, ())) && ((k15 ((v7 ((a2.getD 0 ((0, (0, ())), (0, (0, ())))), ())), (a2.getD 1 ((0, (0, ())), (0, (0, ())))).2.1, ())) && ((k10 (a0, a1, (v7 ((a2.getD 0 ((0, (0, ())), (0, (0, ())))), ())), (v7 ((a2.getD 1 ((0, (0, ())), (0, (0, ())))), ())), ())) && (tt 1 ((k7 ((a2.getD 1 ((0, (0, ())), (0, (0, ())))), ())) && (tt 1 (k7 ((a2.getD 0 ((0, (0, ())), (0, (0, ())))), ()))))))))) then some (v14 (())) else none)
    else
      (bif (!(v10 (a0, a1, (v7 ((a2.getD 0 ((0, (0, ())), (0, (0, ())))), ())), (v7 ((a2.getD 1 ((0, (0, ())), (0, (0, ())))), ())), ())).1) then
        (bif ((k14 (())) && ((k15 ((v7 ((a2.getD 1 ((0, (0, ())), (0, (0, ())))), ())), (a2.getD 0 ((0, (0, ())), (0, (0, ())))).2.2.1, ())) && ((k15 ((v7 ((a2.getD 0 ((0, (0, ())), (0, (0, ())))), ())), (a2.getD 1 ((0, (0, ())), (0, (0, ())))).2.1, ())) && ((k10 (a0, a1, (v7 ((a2.getD 0 ((0, (0, ())), (0, (0, ())))), ())), (v7 ((a2.getD 1 ((0, (0, ())), (0, (0, ())))), ())), ())) && (tt 1 ((k7 ((a2.getD 1 ((0, (0, ())), (0, (0, ())))), ())) && (tt 1 (k7 ((a2.getD 0 ((0, (0, ())), (0, (0, ())))), ()))))))))) then some (v14 (())) else none)
      else
        (bif ((k15 ((v7 ((a2.getD 1 ((0, (0, ())), (0, (0, ())))), ())), (a2.getD 0 ((0, (0, ())), (0, (0, ())))).2.2.1, ())) && ((k15 ((v7 ((a2.getD 0 ((0, (0, ())), (0, (0, ())))), ())), (a2.getD 1 ((0, (0, ())), (0, (0, ())))).2.1, ())) && ((k10 (a0, a1, (v7 ((a2.getD 0 ((0, (0, ())), (0, (0, ())))), ())), (v7 ((a2.getD 1 ((0, (0, ())), (0, (0, ())))), ())), ())) && (tt 1 ((k7 ((a2.getD 1 ((0, (0, ())), (0, (0, ())))), ())) && (tt 1 (k7 ((a2.getD 0 ((0, (0, ())), (0, (0, ())))), ())))))))) then some false else none)))
  else
    (bif (!(v15 ((v7 ((a2.getD 0 ((0, (0, ())), (0, (0, ())))), ())), (a2.getD 1 ((0, (0, ())), (0, (0, ())))).2.1, ())).2.1) then
      (bif (v10 (a0, a1, (v7 ((a2.getD 0 ((0, (0, ())), (0, (0, ())))), ())), (v7 ((a2.getD 1 ((0, (0, ())), (0, (0, ())))), ())), ())).2.1 then
        (bif ((k14 (())) && ((k15 ((v7 ((a2.getD 1 ((0, (0, ())), (0, (0, ())))), ())), (a2.getD 0 ((0, (0, ())), (0, (0, ())))).2.2.1, ())) && ((k15 ((v7 ((a2.getD 0 ((0, (0, ())), (0, (0, ())))), ())), (a2.getD 1 ((0, (0, ())), (0, (0, ())))).2.1, ())) && ((k10 (a0, a1, (v7 ((a2.getD 0 ((0, (0, ())), (0, (0, ())))), ())), (v7 ((a2.getD 1 ((0, (0, ())), (0, (0, ())))), ())), ())) && (tt 1 ((k7 ((a2.getD 1 ((0, (0, ())), (0, (0, ())))), ())) && (tt 1 (k7 ((a2.getD 0 ((0, (0, ())), (0, (0, ())))), ()))))))))) then some (v14 (())) else none)
      else
        (bif (!(v10 (a0, a1, (v7 ((a2.getD 0 ((0, (0, ())), (0, (0, ())))), ())), (v7 ((a2.getD 1 ((0, (0, ())), (0, (0, ())))), ())), ())).1) then
          (bif ((k14 (())) && ((k15 ((v7 ((a2.getD 1 ((0, (0, ())), (0, (0, ())))), ())), (a2.getD 0 ((0, (0, ())), (0, (0, ())))).2.2.1, ())) && ((k15 ((v7 ((a2.getD 0 ((0, (0, ())), (0, (0, ())))), ())), (a2.getD 1 ((0, (0, ())), (0, (0, ())))).2.1, ())) && ((k10 (a0, a1, (v7 ((a2.getD 0 ((0, (0, ())), (0, (0, ())))), ())), (v7 ((a2.getD 1 ((0, (0, ())), (0, (0, ())))), ())), ())) && (tt 1 ((k7 ((a2.getD 1 ((0, (0, ())), (0, (0, ())))), ())) && (tt 1 (k7 ((a2.getD 0 ((0, (0, ())), (0, (0, ())))), ()))))))))) then some (v14 (())) else none)
        else
          (bif ((k15 ((v7 ((a2.getD 1 ((0, (0, ())), (0, (0, ())))), ())), (a2.getD 0 ((0, (0, ())), (0, (0, ())))).2.2.1, ())) && ((k15 ((v7 ((a2.getD 0 ((0, (0, ())), (0, (0, ())))), ())), (a2.getD 1 ((0, (0, ())), (0, (0, ())))).2.1, ())) && ((k10 (a0, a1, (v7 ((a2.getD 0 ((0, (0, ())), (0, (0, ())))), ())), (v7 ((a2.getD 1 ((0, (0, ())), (0, (0, ())))), ())), ())) && (tt 1 ((k7 ((a2.getD 1 ((0, (0, ())), (0, (0, ())))), ())) && (tt 1 (k7 ((a2.getD 0 ((0, (0, ())), (0, (0, ())))), ())))))))) then some false else none)))
    else
      (bif (!(v15 ((v7 ((a2.getD 1 ((0, (0, ())), (0, (0, ())))), ())), (a2.getD 0 ((0, (0, ())), (0, (0, ())))).2.2.1, ())).2.1) then
        (bif (v10 (a0, a1, (v7 ((a2.getD 0 ((0, (0, ())), (0, (0, ())))), ())), (v7 ((a2.getD 1 ((0, (0, ())), (0, (0, ())))), ())), ())).2.1 then
          (bif ((k14 (())) && ((k15 ((v7 ((a2.getD 1 ((0, (0, ())), (0, (0, ())))), ())), (a2.getD 0 ((0, (0, ())), (0, (0, ())))).2.2.1, ())) && ((k15 ((v7 ((a2.getD 0 ((0, (0, ())), (0, (0, ())))), ())), (a2.getD 1 ((0, (0, ())), (0, (0, ())))).2.1, ())) && ((k10 (a0, a1, (v7 ((a2.getD 0 ((0, (0, ())), (0, (0, ())))), ())), (v7 ((a2.getD 1 ((0, (0, ())), (0, (0, ())))), ())), ())) && (tt 1 ((k7 ((a2.getD 1 ((0, (0, ())), (0, (0, ())))), ())) && (tt 1 (k7 ((a2.getD 0 ((0, (0, ())), (0, (0, ())))), ()))))))))) then some (v14 (())) else none)
        else
          (bif (!(v10 (a0, a1, (v7 ((a2.getD 0 ((0, (0, ())), (0, (0, ())))), ())), (v7 ((a2.getD 1 ((0, (0, ())), (0, (0, ())))), ())), ())).1) then
            (bif ((k14 (())) && ((k15 ((v7 ((a2.getD 1 ((0, (0, ())), (0, (0, ())))), ())), (a2.getD 0 ((0, (0, ())), (0, (0, ())))).2.2.1, ())) && ((k15 ((v7 ((a2.getD 0 ((0, (0, ())), (0, (0, ())))), ())), (a2.getD 1 ((0, (0, ())), (0, (0, ())))).2.1, ())) && ((k10 (a0, a1, (v7 ((a2.getD 0 ((0, (0, ())), (0, (0, ())))), ())), (v7 ((a2.getD 1 ((0, (0, ())), (0, (0, ())))), ())), ())) && (tt 1 ((k7 ((a2.getD 1 ((0, (0, ())), (0, (0, ())))), ())) && (tt 1 (k7 ((a2.getD 0 ((0, (0, ())), (0, (0, ())))), ()))))))))) then some (v14 (())) else none)
          else
            (bif ((k15 ((v7 ((a2.getD 1 ((0, (0, ())), (0, (0, ())))), ())), (a2.getD 0 ((0, (0, ())), (0, (0, ())))).2.2.1, ())) && ((k15 ((v7 ((a2.getD 0 ((0, (0, ())), (0, (0, ())))), ())), (a2.getD 1 ((0, (0, ())), (0, (0, ())))).2.1, ())) && ((k10 (a0, a1, (v7 ((a2.getD 0 ((0, (0, ())), (0, (0, ())))), ())), (v7 ((a2.getD 1 ((0, (0, ())), (0, (0, ())))), ())), ())) && (tt 1 ((k7 ((a2.getD 1 ((0, (0, ())), (0, (0, ())))), ())) && (tt 1 (k7 ((a2.getD 0 ((0, (0, ())), (0, (0, ())))), ())))))))) then some false else none)))
      else
        (bif (v16 (a0, a1, (v15 ((v7 ((a2.getD 0 ((0, (0, ())), (0, (0, ())))), ())), (a2.getD 1 ((0, (0, ())), (0, (0, ())))).2.1, ())).1, (v15 ((v7 ((a2.getD 1 ((0, (0, ())), (0, (0, ())))), ())), (a2.getD 0 ((0, (0, ())), (0, (0, ())))).2.2.1, ())).1, ())).2.1 then
          (bif ((v16 (a0, a1, (v15 ((v7 ((a2.getD 0 ((0, (0, ())), (0, (0, ())))), ())), (a2.getD 1 ((0, (0, ())), (0, (0, ())))).2.1, ())).1, (v15 ((v7 ((a2.getD 1 ((0, (0, ())), (0, (0, ())))), ())), (a2.getD 0 ((0, (0, ())), (0, (0, ())))).2.2.1, ())).1, ())).1 == (v10 (a0, a1, (v7 ((a2.getD 0 ((0, (0, ())), (0, (0, ())))), ())), (v7 ((a2.getD 1 ((0, (0, ())), (0, (0, ())))), ())), ())).1) then
            (bif ((k14 (())) && ((k16 (a0, a1, (v15 ((v7 ((a2.getD 0 ((0, (0, ())), (0, (0, ())))), ())), (a2.getD 1 ((0, (0, ())), (0, (0, ())))).2.1, ())).1, (v15 ((v7 ((a2.getD 1 ((0, (0, ())), (0, (0, ())))), ())), (a2.getD 0 ((0, (0, ())), (0, (0, ())))).2.2.1, ())).1, ())) && ((k15 ((v7 ((a2.getD 1 ((0, (0, ())), (0, (0, ())))), ())), (a2.getD 0 ((0, (0, ())), (0, (0, ())))).2.2.1, ())) && ((k15 ((v7 ((a2.getD 0 ((0, (0, ())), (0, (0, ())))), ())), (a2.getD 1 ((0, (0, ())), (0, (0, ())))).2.1, ())) && ((k10 (a0, a1, (v7 ((a2.getD 0 ((0, (0, ())), (0, (0, ())))), ())), (v7 ((a2.getD 1 ((0, (0, ())), (0, (0, ())))), ())), ())) && (tt 1 ((k7 ((a2.getD 1 ((0, (0, ())), (0, (0, ())))), ())) && (tt 1 (k7 ((a2.getD 0 ((0, (0, ())), (0, (0, ())))), ())))))))))) then some (v14 (())) else none)
          else
            (bif ((k16 (a0, a1, (v15 ((v7 ((a2.getD 0 ((0, (0, ())), (0, (0, ())))), ())), (a2.getD 1 ((0, (0, ())), (0, (0, ())))).2.1, ())).1, (v15 ((v7 ((a2.getD 1 ((0, (0, ())), (0, (0, ())))), ())), (a2.getD 0 ((0, (0, ())), (0, (0, ())))).2.2.1, ())).1, ())) && ((k15 ((v7 ((a2.getD 1 ((0, (0, ())), (0, (0, ())))), ())), (a2.getD 0 ((0, (0, ())), (0, (0, ())))).2.2.1, ())) && ((k15 ((v7 ((a2.getD 0 ((0, (0, ())), (0, (0, ())))), ())), (a2.getD 1 ((0, (0, ())), (0, (0, ())))).2.1, ())) && ((k10 (a0, a1, (v7 ((a2.getD 0 ((0, (0, ())), (0, (0, ())))), ())), (v7 ((a2.getD 1 ((0, (0, ())), (0, (0, ())))), ())), ())) && (tt 1 ((k7 ((a2.getD 1 ((0, (0, ())), (0, (0, ())))), ())) && (tt 1 (k7 ((a2.getD 0 ((0, (0, ())), (0, (0, ())))), ()))))))))) then some false else none))
        else
          (bif ((k16 (a0, a1, (v15 ((v7 ((a2.getD 0 ((0, (0, ())), (0, (0, ())))), ())), (a2.getD 1 ((0, (0, ())), (0, (0, ())))).2.1, ())).1, (v15 ((v7 ((a2.getD 1 ((0, (0, ())), (0, (0, ())))), ())), (a2.getD 0 ((0, (0, ())), (0, (0, ())))).2.2.1, ())).1, ())) && ((k15 ((v7 ((a2.getD 1 ((0, (0, ())), (0, (0, ())))), ())), (a2.getD 0 ((0, (0, ())), (0, (0, ())))).2.2.1, ())) && ((k15 ((v7 ((a2.getD 0 ((0, (0, ())), (0, (0, ())))), ())), (a2.getD 1 ((0, (0, ())), (0, (0, ())))).2.1, ())) && ((k10 (a0, a1, (v7 ((a2.getD 0 ((0, (0, ())), (0, (0, ())))), ())), (v7 ((a2.getD 1 ((0, (0, ())), (0, (0, ())))), ())), ())) && (tt 1 ((k7 ((a2.getD 1 ((0, (0, ())), (0, (0, ())))), ())) && (tt 1 (k7 ((a2.getD 0 ((0, (0, ())), (0, (0, ())))), ()))))))))) then some false else none)))))
theorem t5 (v7 : (KD0 × Unit) → KD0) (k7 : (KD0 × Unit) → Bool) (v10 : (Int × Bool × KD0 × KD0 × Unit) → (Bool × (Bool × Unit))) (k10 : (Int × Bool × KD0 × KD0 × Unit) → Bool) (v14 : (Unit) → Bool) (k14 : (Unit) → Bool) (v15 : (KD0 × Int × Unit) → (Int × (Bool × Unit))) (k15 : (KD0 × Int × Unit) → Bool) (v16 : (Int × Bool × Int × Int × Unit) → (Bool × (Bool × Unit))) (k16 : (Int × Bool × Int × Int × Unit) → Bool) (a0 : Int) (a1 : Bool) (a2 : (List KD0)) : fnT (CxL Try.Θ (kOf [(7, sm [KT4] KT4 v7 k7), (10, sm [(.int .i64), .bool, KT4, KT4] KT8 v10 k10), (14, sm [] .bool v14 k14), (15, sm [KT4, (.int .u64)] KT6 v15 k15), (16, sm [(.int .i64), .bool, (.int .u64), (.int .u64)] KT8 v16 k16)]) (lOf [])) Try.f5 .bool [⟨(.int .i64), a0⟩, ⟨.bool, a1⟩, ⟨(.arr 2 KT4), a2⟩] = S5 v7 k7 v10 k10 v14 k14 v15 k15 v16 k16 a0 a1 a2 := by kernel_rfl
noncomputable def S6 (v7 : (KD0 × Unit) → KD0) (k7 : (KD0 × Unit) → Bool) (v8 : (Int × Bool × KD0 × KD0 × Unit) → KD7) (k8 : (Int × Bool × KD0 × KD0 × Unit) → Bool) (v12 : (Int × Unit) → Int) (k12 : (Int × Unit) → Bool) (v14 : (Unit) → Bool) (k14 : (Unit) → Bool) (a0 : Int) (a1 : Bool) (a2 : (List KD0)) : Option Bool :=
  (bif (decide ((v12 (a0, ())) ≥ 0)) then
    (bif (!(decide ((v12 ((v12 (a0, ())), ())) = a0))) then
      (bif ((k12 ((v12 (a0, ())), ())) && ((k12 (a0, ())) && ((k8 (a0, a1, (v7 ((a2.getD 0 ((0, (0, ())), (0, (0, ())))), ())), (v7 ((a2.getD 1 ((0, (0, ())), (0, (0, ())))), ())), ())) && (tt 1 ((k7 ((a2.getD 1 ((0, (0, ())), (0, (0, ())))), ())) && (tt 1 (k7 ((a2.getD 0 ((0, (0, ())), (0, (0, ())))), ())))))))) then some false else none)
    else
      (bif (!(v8 (a0, a1, (v7 ((a2.getD 0 ((0, (0, ())), (0, (0, ())))), ())), (v7 ((a2.getD 1 ((0, (0, ())), (0, (0, ())))), ())), ())).2.2.1) then
        (bif ((k14 (())) && ((k12 ((v12 (a0, ())), ())) && ((k12 (a0, ())) && ((k8 (a0, a1, (v7 ((a2.getD 0 ((0, (0, ())), (0, (0, ())))), ())), (v7 ((a2.getD 1 ((0, (0, ())), (0, (0, ())))), ())), ())) && (tt 1 ((k7 ((a2.getD 1 ((0, (0, ())), (0, (0, ())))), ())) && (tt 1 (k7 ((a2.getD 0 ((0, (0, ())), (0, (0, ())))), ()))))))))) then some (v14 (())) else none)
      else
        (bif (decide ((v8 (a0, a1, (v7 ((a2.getD 0 ((0, (0, ())), (0, (0, ())))), ())), (v7 ((a2.getD 1 ((0, (0, ())), (0, (0, ())))), ())), ())).1.2.1 ≥ (v7 ((a2.getD 0 ((0, (0, ())), (0, (0, ())))), ())).2.1)) then
          (bif (decide ((v8 (a0, a1, (v7 ((a2.getD 0 ((0, (0, ())), (0, (0, ())))), ())), (v7 ((a2.getD 1 ((0, (0, ())), (0, (0, ())))), ())), ())).1.2.2.1 ≤ (v7 ((a2.getD 0 ((0, (0, ())), (0, (0, ())))), ())).2.2.1)) then
            (bif (decide ((v8 (a0, a1, (v7 ((a2.getD 0 ((0, (0, ())), (0, (0, ())))), ())), (v7 ((a2.getD 1 ((0, (0, ())), (0, (0, ())))), ())), ())).2.1.2.1 ≥ (v7 ((a2.getD 1 ((0, (0, ())), (0, (0, ())))), ())).2.1)) then
              (bif (decide ((v8 (a0, a1, (v7 ((a2.getD 0 ((0, (0, ())), (0, (0, ())))), ())), (v7 ((a2.getD 1 ((0, (0, ())), (0, (0, ())))), ())), ())).2.1.2.2.1 ≤ (v7 ((a2.getD 1 ((0, (0, ())), (0, (0, ())))), ())).2.2.1)) then
                (bif ((k14 (())) && ((k12 ((v12 (a0, ())), ())) && ((k12 (a0, ())) && ((k8 (a0, a1, (v7 ((a2.getD 0 ((0, (0, ())), (0, (0, ())))), ())), (v7 ((a2.getD 1 ((0, (0, ())), (0, (0, ())))), ())), ())) && (tt 1 ((k7 ((a2.getD 1 ((0, (0, ())), (0, (0, ())))), ())) && (tt 1 (k7 ((a2.getD 0 ((0, (0, ())), (0, (0, ())))), ()))))))))) then some (v14 (())) else none)
              else
                (bif ((k12 ((v12 (a0, ())), ())) && ((k12 (a0, ())) && ((k8 (a0, a1, (v7 ((a2.getD 0 ((0, (0, ())), (0, (0, ())))), ())), (v7 ((a2.getD 1 ((0, (0, ())), (0, (0, ())))), ())), ())) && (tt 1 ((k7 ((a2.getD 1 ((0, (0, ())), (0, (0, ())))), ())) && (tt 1 (k7 ((a2.getD 0 ((0, (0, ())), (0, (0, ())))), ())))))))) then some false else none))
            else
              (bif ((k12 ((v12 (a0, ())), ())) && ((k12 (a0, ())) && ((k8 (a0, a1, (v7 ((a2.getD 0 ((0, (0, ())), (0, (0, ())))), ())), (v7 ((a2.getD 1 ((0, (0, ())), (0, (0, ())))), ())), ())) && (tt 1 ((k7 ((a2.getD 1 ((0, (0, ())), (0, (0, ())))), ())) && (tt 1 (k7 ((a2.getD 0 ((0, (0, ())), (0, (0, ())))), ())))))))) then some false else none))
          else
            (bif ((k12 ((v12 (a0, ())), ())) && ((k12 (a0, ())) && ((k8 (a0, a1, (v7 ((a2.getD 0 ((0, (0, ())), (0, (0, ())))), ())), (v7 ((a2.getD 1 ((0, (0, ())), (0, (0, ())))), ())), ())) && (tt 1 ((k7 ((a2.getD 1 ((0, (0, ())), (0, (0, ())))), ())) && (tt 1 (k7 ((a2.getD 0 ((0, (0, ())), (0, (0, ())))), ())))))))) then some false else none))
        else
          (bif ((k12 ((v12 (a0, ())), ())) && ((k12 (a0, ())) && ((k8 (a0, a1, (v7 ((a2.getD 0 ((0, (0, ())), (0, (0, ())))), ())), (v7 ((a2.getD 1 ((0, (0, ())), (0, (0, ())))), ())), ())) && (tt 1 ((k7 ((a2.getD 1 ((0, (0, ())), (0, (0, ())))), ())) && (tt 1 (k7 ((a2.getD 0 ((0, (0, ())), (0, (0, ())))), ())))))))) then some false else none))))
  else
    (bif (!(v8 (a0, a1, (v7 ((a2.getD 0 ((0, (0, ())), (0, (0, ())))), ())), (v7 ((a2.getD 1 ((0, (0, ())), (0, (0, ())))), ())), ())).2.2.1) then
      (bif ((k14 (())) && ((k12 (a0, ())) && ((k8 (a0, a1, (v7 ((a2.getD 0 ((0, (0, ())), (0, (0, ())))), ())), (v7 ((a2.getD 1 ((0, (0, ())), (0, (0, ())))), ())), ())) && (tt 1 ((k7 ((a2.getD 1 ((0, (0, ())), (0, (0, ())))), ())) && (tt 1 (k7 ((a2.getD 0 ((0, (0, ())), (0, (0, ())))), ())))))))) then some (v14 (())) else none)
    else
      (bif (decide ((v8 (a0, a1, (v7 ((a2.getD 0 ((0, (0, ())), (0, (0, ())))), ())), (v7 ((a2.getD 1 ((0, (0, ())), (0, (0, ())))), ())), ())).1.2.1 ≥ (v7 ((a2.getD 0 ((0, (0, ())), (0, (0, ())))), ())).2.1)) then
        (bif (decide ((v8 (a0, a1, (v7 ((a2.getD 0 ((0, (0, ())), (0, (0, ())))), ())), (v7 ((a2.getD 1 ((0, (0, ())), (0, (0, ())))), ())), ())).1.2.2.1 ≤ (v7 ((a2.getD 0 ((0, (0, ())), (0, (0, ())))), ())).2.2.1)) then
          (bif (decide ((v8 (a0, a1, (v7 ((a2.getD 0 ((0, (0, ())), (0, (0, ())))), ())), (v7 ((a2.getD 1 ((0, (0, ())), (0, (0, ())))), ())), ())).2.1.2.1 ≥ (v7 ((a2.getD 1 ((0, (0, ())), (0, (0, ())))), ())).2.1)) then
            (bif (decide ((v8 (a0, a1, (v7 ((a2.getD 0 ((0, (0, ())), (0, (0, ())))), ())), (v7 ((a2.getD 1 ((0, (0, ())), (0, (0, ())))), ())), ())).2.1.2.2.1 ≤ (v7 ((a2.getD 1 ((0, (0, ())), (0, (0, ())))), ())).2.2.1)) then
              (bif ((k14 (())) && ((k12 (a0, ())) && ((k8 (a0, a1, (v7 ((a2.getD 0 ((0, (0, ())), (0, (0, ())))), ())), (v7 ((a2.getD 1 ((0, (0, ())), (0, (0, ())))), ())), ())) && (tt 1 ((k7 ((a2.getD 1 ((0, (0, ())), (0, (0, ())))), ())) && (tt 1 (k7 ((a2.getD 0 ((0, (0, ())), (0, (0, ())))), ())))))))) then some (v14 (())) else none)
            else
              (bif ((k12 (a0, ())) && ((k8 (a0, a1, (v7 ((a2.getD 0 ((0, (0, ())), (0, (0, ())))), ())), (v7 ((a2.getD 1 ((0, (0, ())), (0, (0, ())))), ())), ())) && (tt 1 ((k7 ((a2.getD 1 ((0, (0, ())), (0, (0, ())))), ())) && (tt 1 (k7 ((a2.getD 0 ((0, (0, ())), (0, (0, ())))), ()))))))) then some false else none))
          else
            (bif ((k12 (a0, ())) && ((k8 (a0, a1, (v7 ((a2.getD 0 ((0, (0, ())), (0, (0, ())))), ())), (v7 ((a2.getD 1 ((0, (0, ())), (0, (0, ())))), ())), ())) && (tt 1 ((k7 ((a2.getD 1 ((0, (0, ())), (0, (0, ())))), ())) && (tt 1 (k7 ((a2.getD 0 ((0, (0, ())), (0, (0, ())))), ()))))))) then some false else none))
        else
          (bif ((k12 (a0, ())) && ((k8 (a0, a1, (v7 ((a2.getD 0 ((0, (0, ())), (0, (0, ())))), ())), (v7 ((a2.getD 1 ((0, (0, ())), (0, (0, ())))), ())), ())) && (tt 1 ((k7 ((a2.getD 1 ((0, (0, ())), (0, (0, ())))), ())) && (tt 1 (k7 ((a2.getD 0 ((0, (0, ())), (0, (0, ())))), ()))))))) then some false else none))
      else
        (bif ((k12 (a0, ())) && ((k8 (a0, a1, (v7 ((a2.getD 0 ((0, (0, ())), (0, (0, ())))), ())), (v7 ((a2.getD 1 ((0, (0, ())), (0, (0, ())))), ())), ())) && (tt 1 ((k7 ((a2.getD 1 ((0, (0, ())), (0, (0, ())))), ())) && (tt 1 (k7 ((a2.getD 0 ((0, (0, ())), (0, (0, ())))), ()))))))) then some false else none))))
theorem t6 (v7 : (KD0 × Unit) → KD0) (k7 : (KD0 × Unit) → Bool) (v8 : (Int × Bool × KD0 × KD0 × Unit) → KD7) (k8 : (Int × Bool × KD0 × KD0 × Unit) → Bool) (v12 : (Int × Unit) → Int) (k12 : (Int × Unit) → Bool) (v14 : (Unit) → Bool) (k14 : (Unit) → Bool) (a0 : Int) (a1 : Bool) (a2 : (List KD0)) : fnT (CxL Try.Θ (kOf [(7, sm [KT4] KT4 v7 k7), (8, sm [(.int .i64), .bool, KT4, KT4] (.tup KT4 KT5) v8 k8), (12, sm [(.int .i64)] (.int .i64) v12 k12), (14, sm [] .bool v14 k14)]) (lOf [])) Try.f6 .bool [⟨(.int .i64), a0⟩, ⟨.bool, a1⟩, ⟨(.arr 2 KT4), a2⟩] = S6 v7 k7 v8 k8 v12 k12 v14 k14 a0 a1 a2 := by kernel_rfl
end Go.Proofs
