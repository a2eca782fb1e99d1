import Derived.Test.YtfhpihomdnbgpaaJ
import Derived.Test.YtfhpihomdnbgpaaGd
namespace Go.Proofs.Po
open Go.GX
set_option linter.unusedVariables false
set_option maxRecDepth 100000
@[reducible] def KTq0 : Ty := (.pair (.int .u64) .unit)
@[reducible] def KTq1 : Ty := (.pair (.int .u64) KTq0)
@[reducible] def KTq2 : Ty := (.pair (.int .i64) .unit)
@[reducible] def KTq3 : Ty := (.pair (.int .i64) KTq2)
@[reducible] def KTq4 : Ty := (.pair (.int .i64) KTq3)
@[reducible] def KTq5 : Ty := (.pair (.pair KTq1 KTq1) KTq4)
@[reducible] def KTq6 : Ty := (.pair (.int .i64) KTq5)
@[reducible] def KDq7 : Type := ((Int × (Int × Unit)) × (Int × (Int × Unit)))
@[reducible] def KDq8 : Type := (Int × (Int × (Int × Unit)))
@[reducible] def KDq9 : Type := (List (Int × (KDq7 × KDq8)))
@[reducible] def KDq10 : Type := ((Int × (KDq7 × KDq8)) × Unit)
@[reducible] def KDq11 : Type := (List (Int × (Int × KDq10)))
@[reducible] def KDq12 : Type := ((List Int) × (Int × Unit))
@[reducible] def KDq13 : Type := (KDq9 × (KDq11 × (Int × KDq12)))
@[reducible] def KTq14 : Ty := (.pair (.int .i64) (.pair KTq6 .unit))
@[reducible] def KTq15 : Ty := (.pair (.int .i64) KTq14)
@[reducible] def KTq16 : Ty := (.pair (.vsl (.int .i64)) KTq2)
@[reducible] def KTq17 : Ty := (.pair (.int .i64) KTq16)
@[reducible] def KTq18 : Ty := (.pair (.arr 64 KTq15) KTq17)
@[reducible] def KTq19 : Ty := (.pair (.arr 11 KTq6) KTq18)
@[reducible] def KTq20 : Ty := (.pair (.int .i64) KTq4)
@[reducible] def KTq21 : Ty := (.tup (.int .i64) .tnil)
@[reducible] def Ye0 : Type := (Unit × Unit × Int × KDq13 × KDq13 × Unit)
@[reducible] def Ye1 : Type := (KDq13 × (List (Int × KDq8)) × Int × Unit)
@[reducible] def Ye2 : Type := ((Unit × Unit × KDq13 × KDq13 × Unit) ⊕ (Bool × Unit))
@[reducible] def Ye3 : Type := ((List (Int × KDq8)) × Unit)
def hd3_0 : List It := [.pt 3 ⟨0, [0]⟩, .pt 7 ⟨1, [0]⟩, .sl 9 (.int .i64), .bl 0 KTq19, .bl 1 KTq19]
def ys3_0 : Ways := [((.exit 0), [.pt 3 ⟨0, [0]⟩, .pt 7 ⟨1, [0]⟩, .bl 0 KTq19, .bl 1 KTq19]), (.ret, [.sl 6 .bool])]
noncomputable def R3_0 (v6 : (KDq13 × Unit) → Bool) (k6 : (KDq13 × Unit) → Bool) (v7 : Ye3 → Bool) (k7 : Ye3 → Bool) (v8 : (Unit) → Bool) (k8 : (Unit) → Bool) (v9 : Ye1 → (KDq13 × (Int × Unit))) (k9 : Ye1 → Bool) (lv0 : Ye0 → Ye2) (lk0 : Ye0 → Bool) (x0 : Unit) (x1 : Unit) (x2 : Int) (x3 : KDq13) (x4 : KDq13) : Option (Ye0 ⊕ Ye2) :=
 (bif (decide (x2 ≤ 10)) then
 (bif (decide (x2 ≤ 5)) then
 (bif (!((decide ((x4.1.getD (Int.toNat x2) rZ).1 = 0)) && ((((decide ((x4.1.getD (Int.toNat x2) rZ).2.1.1.1 = 0)) && (tt 1 (decide ((x4.1.getD (Int.toNat x2) rZ).2.1.1.2.1 = 0)))) && ((decide ((x4.1.getD (Int.toNat x2) rZ).2.1.2.1 = 0)) && (tt 1 (decide ((x4.1.getD (Int.toNat x2) rZ).2.1.2.2.1 = 0))))) && ((decide ((x4.1.getD (Int.toNat x2) rZ).2.2.1 = 0)) && ((decide ((x4.1.getD (Int.toNat x2) rZ).2.2.2.1 = 0)) && (tt 1 (decide ((x4.1.getD (Int.toNat x2) rZ).2.2.2.2.1 = 0)))))))) then
 (bif (tt 2 ((tt 1 (decide (((Int.toNat x2) : Nat) < 11))) && (tt 1 ((decide (0 ≤ x2)) && (decide (x2 < 11)))))) then some (.inr (.inr (false, ()))) else none)
 else
 (bif (decide (x2 > 5)) then
 (bif (!((decide ((x4.1.getD (Int.toNat x2) rZ).1 = (x3.1.getD (Int.toNat x2) rZ).1)) && ((((decide ((x4.1.getD (Int.toNat x2) rZ).2.1.1.1 = (x3.1.getD (Int.toNat x2) rZ).2.1.1.1)) && (tt 1 (decide ((x4.1.getD (Int.toNat x2) rZ).2.1.1.2.1 = (x3.1.getD (Int.toNat x2) rZ).2.1.1.2.1)))) && ((decide ((x4.1.getD (Int.toNat x2) rZ).2.1.2.1 = (x3.1.getD (Int.toNat x2) rZ).2.1.2.1)) && (tt 1 (decide ((x4.1.getD (Int.toNat x2) rZ).2.1.2.2.1 = (x3.1.getD (Int.toNat x2) rZ).2.1.2.2.1))))) && ((decide ((x4.1.getD (Int.toNat x2) rZ).2.2.1 = (x3.1.getD (Int.toNat x2) rZ).2.2.1)) && ((decide ((x4.1.getD (Int.toNat x2) rZ).2.2.2.1 = (x3.1.getD (Int.toNat x2) rZ).2.2.2.1)) && (tt 1 (decide ((x4.1.getD (Int.toNat x2) rZ).2.2.2.2.1 = (x3.1.getD (Int.toNat x2) rZ).2.2.2.2.1)))))))) then
 (bif (!((decide ((x4.1.getD (Int.toNat x2) rZ).1 = 0)) && ((((decide ((x4.1.getD (Int.toNat x2) rZ).2.1.1.1 = 0)) && (tt 1 (decide ((x4.1.getD (Int.toNat x2) rZ).2.1.1.2.1 = 0)))) && ((decide ((x4.1.getD (Int.toNat x2) rZ).2.1.2.1 = 0)) && (tt 1 (decide ((x4.1.getD (Int.toNat x2) rZ).2.1.2.2.1 = 0))))) && ((decide ((x4.1.getD (Int.toNat x2) rZ).2.2.1 = 0)) && ((decide ((x4.1.getD (Int.toNat x2) rZ).2.2.2.1 = 0)) && (tt 1 (decide ((x4.1.getD (Int.toNat x2) rZ).2.2.2.2.1 = 0)))))))) then
 (bif (tt 2 ((tt 1 (decide (((Int.toNat x2) : Nat) < 11))) && (((decide (0 ≤ x2)) && (decide (x2 < 11))) && ((tt 1 (decide (((Int.toNat x2) : Nat) < 11))) && (((decide (0 ≤ x2)) && (decide (x2 < 11))) && ((tt 1 (decide (((Int.toNat x2) : Nat) < 11))) && (((decide (0 ≤ x2)) && (decide (x2 < 11))) && ((tt 1 (decide (((Int.toNat x2) : Nat) < 11))) && (tt 1 ((decide (0 ≤ x2)) && (decide (x2 < 11)))))))))))) then some (.inr (.inr (false, ()))) else none)
 else
 (bif (tt 2 ((tt 1 (decide (((Int.toNat x2) : Nat) < 11))) && (((decide (0 ≤ x2)) && (decide (x2 < 11))) && ((tt 1 (decide (((Int.toNat x2) : Nat) < 11))) && (((decide (0 ≤ x2)) && (decide (x2 < 11))) && ((tt 1 (decide (((Int.toNat x2) : Nat) < 11))) && (((decide (0 ≤ x2)) && (decide (x2 < 11))) && ((tt 1 (decide (((Int.toNat x2) : Nat) < 11))) && (tt 1 ((decide (0 ≤ x2)) && (decide (x2 < 11)))))))))))) then some (.inl ((), (), (IntKind.wrap .i64 (x2 + 1)), x3, x4, ())) else none))
 else
 (bif (tt 2 ((tt 1 (decide (((Int.toNat x2) : Nat) < 11))) && (((decide (0 ≤ x2)) && (decide (x2 < 11))) && ((tt 1 (decide (((Int.toNat x2) : Nat) < 11))) && (((decide (0 ≤ x2)) && (decide (x2 < 11))) && ((tt 1 (decide (((Int.toNat x2) : Nat) < 11))) && (tt 1 ((decide (0 ≤ x2)) && (decide (x2 < 11)))))))))) then some (.inl ((), (), (IntKind.wrap .i64 (x2 + 1)), x3, x4, ())) else none))
 else
 (bif (tt 2 ((tt 1 (decide (((Int.toNat x2) : Nat) < 11))) && (tt 1 ((decide (0 ≤ x2)) && (decide (x2 < 11)))))) then some (.inl ((), (), (IntKind.wrap .i64 (x2 + 1)), x3, x4, ())) else none)))
 else
 (bif (decide (x2 > 5)) then
 (bif (!((decide ((x4.1.getD (Int.toNat x2) rZ).1 = (x3.1.getD (Int.toNat x2) rZ).1)) && ((((decide ((x4.1.getD (Int.toNat x2) rZ).2.1.1.1 = (x3.1.getD (Int.toNat x2) rZ).2.1.1.1)) && (tt 1 (decide ((x4.1.getD (Int.toNat x2) rZ).2.1.1.2.1 = (x3.1.getD (Int.toNat x2) rZ).2.1.1.2.1)))) && ((decide ((x4.1.getD (Int.toNat x2) rZ).2.1.2.1 = (x3.1.getD (Int.toNat x2) rZ).2.1.2.1)) && (tt 1 (decide ((x4.1.getD (Int.toNat x2) rZ).2.1.2.2.1 = (x3.1.getD (Int.toNat x2) rZ).2.1.2.2.1))))) && ((decide ((x4.1.getD (Int.toNat x2) rZ).2.2.1 = (x3.1.getD (Int.toNat x2) rZ).2.2.1)) && ((decide ((x4.1.getD (Int.toNat x2) rZ).2.2.2.1 = (x3.1.getD (Int.toNat x2) rZ).2.2.2.1)) && (tt 1 (decide ((x4.1.getD (Int.toNat x2) rZ).2.2.2.2.1 = (x3.1.getD (Int.toNat x2) rZ).2.2.2.2.1)))))))) then
 (bif (!((decide ((x4.1.getD (Int.toNat x2) rZ).1 = 0)) && ((((decide ((x4.1.getD (Int.toNat x2) rZ).2.1.1.1 = 0)) && (tt 1 (decide ((x4.1.getD (Int.toNat x2) rZ).2.1.1.2.1 = 0)))) && ((decide ((x4.1.getD (Int.toNat x2) rZ).2.1.2.1 = 0)) && (tt 1 (decide ((x4.1.getD (Int.toNat x2) rZ).2.1.2.2.1 = 0))))) && ((decide ((x4.1.getD (Int.toNat x2) rZ).2.2.1 = 0)) && ((decide ((x4.1.getD (Int.toNat x2) rZ).2.2.2.1 = 0)) && (tt 1 (decide ((x4.1.getD (Int.toNat x2) rZ).2.2.2.2.1 = 0)))))))) then
 (bif (tt 2 ((tt 1 (decide (((Int.toNat x2) : Nat) < 11))) && (((decide (0 ≤ x2)) && (decide (x2 < 11))) && ((tt 1 (decide (((Int.toNat x2) : Nat) < 11))) && (((decide (0 ≤ x2)) && (decide (x2 < 11))) && ((tt 1 (decide (((Int.toNat x2) : Nat) < 11))) && (tt 1 ((decide (0 ≤ x2)) && (decide (x2 < 11)))))))))) then some (.inr (.inr (false, ()))) else none)
 else
 (bif (tt 2 ((tt 1 (decide (((Int.toNat x2) : Nat) < 11))) && (((decide (0 ≤ x2)) && (decide (x2 < 11))) && ((tt 1 (decide (((Int.toNat x2) : Nat) < 11))) && (((decide (0 ≤ x2)) && (decide (x2 < 11))) && ((tt 1 (decide (((Int.toNat x2) : Nat) < 11))) && (tt 1 ((decide (0 ≤ x2)) && (decide (x2 < 11)))))))))) then some (.inl ((), (), (IntKind.wrap .i64 (x2 + 1)), x3, x4, ())) else none))
 else
 (bif (tt 2 ((tt 1 (decide (((Int.toNat x2) : Nat) < 11))) && (((decide (0 ≤ x2)) && (decide (x2 < 11))) && ((tt 1 (decide (((Int.toNat x2) : Nat) < 11))) && (tt 1 ((decide (0 ≤ x2)) && (decide (x2 < 11)))))))) then some (.inl ((), (), (IntKind.wrap .i64 (x2 + 1)), x3, x4, ())) else none))
 else
 some (.inl ((), (), (IntKind.wrap .i64 (x2 + 1)), x3, x4, ()))))
 else
 some (.inr (.inl ((), (), x3, x4, ()))))
theorem r3_0 (v6 : (KDq13 × Unit) → Bool) (k6 : (KDq13 × Unit) → Bool) (v7 : Ye3 → Bool) (k7 : Ye3 → Bool) (v8 : (Unit) → Bool) (k8 : (Unit) → Bool) (v9 : Ye1 → (KDq13 × (Int × Unit))) (k9 : Ye1 → Bool) (lv0 : Ye0 → Ye2) (lk0 : Ye0 → Bool) (x0 : Unit) (x1 : Unit) (x2 : Int) (x3 : KDq13) (x4 : KDq13) : codeT (CxL Try.Θ (kOf [(6, sm [KTq19] .bool v6 k6), (7, sm [(.vsl KTq20)] .bool v7 k7), (8, sm [] .bool v8 k8), (9, sm [KTq19, (.vsl KTq20), (.int .i64)] (.tup KTq19 KTq21) v9 k9)]) (lOf [(0, orc 87 26 0 hd3_0 ys3_0 lv0 lk0)])) (loopB 0 (bodyF Try.f3)) (mkS 87 26 hd3_0 (x0, x1, x2, x3, x4, ())) (leafR 87 hd3_0 ys3_0) = R3_0 v6 k6 v7 k7 v8 k8 v9 k9 lv0 lk0 x0 x1 x2 x3 x4 := by kernel_rfl
noncomputable def S3 (v6 : (KDq13 × Unit) → Bool) (k6 : (KDq13 × Unit) → Bool) (v7 : Ye3 → Bool) (k7 : Ye3 → Bool) (v8 : (Unit) → Bool) (k8 : (Unit) → Bool) (v9 : Ye1 → (KDq13 × (Int × Unit))) (k9 : Ye1 → Bool) (lv0 : Ye0 → Ye2) (lk0 : Ye0 → Bool) (a0 : KDq13) (a1 : (List (Int × KDq8))) (a2 : Int) : Option Bool :=
 (bif (!(v6 (a0, ()))) then
 (bif ((k8 (())) && (tt 1 (k6 (a0, ())))) then some (v8 (())) else none)
 else
 (bif (!(v7 (a1, ()))) then
 (bif ((k8 (())) && ((k7 (a1, ())) && (tt 1 (k6 (a0, ()))))) then some (v8 (())) else none)
 else
 (bif (!(decide ((v9 (a0, a1, a2, ())).2.1 = 0))) then
 (bif (eqb (.arr 11 KTq6) (v9 (a0, a1, a2, ())).1.1 []) then
 (bif ((k8 (())) && ((k9 (a0, a1, a2, ())) && ((k7 (a1, ())) && (tt 1 (k6 (a0, ())))))) then some (v8 (())) else none)
 else
 (bif ((k9 (a0, a1, a2, ())) && ((k7 (a1, ())) && (tt 1 (k6 (a0, ()))))) then some false else none))
 else
 (bif (isL (lv0 ((), (), 1, a0, (v9 (a0, a1, a2, ())).1, ()))) then
 (bif (!(decide (((getL (((), (), ([], ([], (0, ([], (0, ()))))), ([], ([], (0, ([], (0, ()))))), ()) : (Unit × Unit × KDq13 × KDq13 × Unit)) (lv0 ((), (), 1, a0, (v9 (a0, a1, a2, ())).1, ()))).2.2.2.1.1.getD 0 rZ).1 = 0))) then
 (bif (decide ((getL (((), (), ([], ([], (0, ([], (0, ()))))), ([], ([], (0, ([], (0, ()))))), ()) : (Unit × Unit × KDq13 × KDq13 × Unit)) (lv0 ((), (), 1, a0, (v9 (a0, a1, a2, ())).1, ()))).2.2.2.1.2.2.2.2.1 ≥ (getL (((), (), ([], ([], (0, ([], (0, ()))))), ([], ([], (0, ([], (0, ()))))), ()) : (Unit × Unit × KDq13 × KDq13 × Unit)) (lv0 ((), (), 1, a0, (v9 (a0, a1, a2, ())).1, ()))).2.2.1.2.2.2.2.1)) then
 (bif ((k8 (())) && ((lk0 ((), (), 1, a0, (v9 (a0, a1, a2, ())).1, ())) && (tt 1 ((k9 (a0, a1, a2, ())) && ((k7 (a1, ())) && (tt 1 (k6 (a0, ())))))))) then some (v8 (())) else none)
 else
 (bif ((lk0 ((), (), 1, a0, (v9 (a0, a1, a2, ())).1, ())) && (tt 1 ((k9 (a0, a1, a2, ())) && ((k7 (a1, ())) && (tt 1 (k6 (a0, ()))))))) then some false else none))
 else
 (bif ((lk0 ((), (), 1, a0, (v9 (a0, a1, a2, ())).1, ())) && (tt 1 ((k9 (a0, a1, a2, ())) && ((k7 (a1, ())) && (tt 1 (k6 (a0, ()))))))) then some false else none))
 else
 (bif ((lk0 ((), (), 1, a0, (v9 (a0, a1, a2, ())).1, ())) && (tt 1 ((k9 (a0, a1, a2, ())) && ((k7 (a1, ())) && (tt 1 (k6 (a0, ()))))))) then some (getR ((false, ()) : (Bool × Unit)) (lv0 ((), (), 1, a0, (v9 (a0, a1, a2, ())).1, ()))).1 else none)))))
theorem t3 (v6 : (KDq13 × Unit) → Bool) (k6 : (KDq13 × Unit) → Bool) (v7 : Ye3 → Bool) (k7 : Ye3 → Bool) (v8 : (Unit) → Bool) (k8 : (Unit) → Bool) (v9 : Ye1 → (KDq13 × (Int × Unit))) (k9 : Ye1 → Bool) (lv0 : Ye0 → Ye2) (lk0 : Ye0 → Bool) (a0 : KDq13) (a1 : (List (Int × KDq8))) (a2 : Int) : fnT (CxL Try.Θ (kOf [(6, sm [KTq19] .bool v6 k6), (7, sm [(.vsl KTq20)] .bool v7 k7), (8, sm [] .bool v8 k8), (9, sm [KTq19, (.vsl KTq20), (.int .i64)] (.tup KTq19 KTq21) v9 k9)]) (lOf [(0, orc 87 26 0 hd3_0 ys3_0 lv0 lk0)])) Try.f3 .bool [⟨KTq19, a0⟩, ⟨(.vsl KTq20), a1⟩, ⟨(.int .i64), a2⟩] = S3 v6 k6 v7 k7 v8 k8 v9 k9 lv0 lk0 a0 a1 a2 := by kernel_rfl
end Go.Proofs.Po
