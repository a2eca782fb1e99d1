import Derived.Test.YtflbecfhnpdogaaT
import Derived.Test.YtflbecfhnpdogaaGd
namespace Go.Proofs
open Go.GX
set_option linter.unusedVariables false
set_option maxRecDepth 100000
@[reducible] def KT0 : Ty := (.tup (.int .i64) .tnil)
@[reducible] def KD1 : Type := (Int × (Int × (Int × Unit)))
@[reducible] def KT2 : Ty := (.pair (.int .i64) .unit)
@[reducible] def KT3 : Ty := (.pair (.int .i64) (.pair (.int .i64) KT2))
@[reducible] def KD4 : Type := (Int × ((List UInt8) × Unit))
@[reducible] def KT5 : Ty := (.pair (.int .i64) (.pair .str .unit))
@[reducible] def KT6 : Ty := (.pair (.int .i64) (.pair (.int .i64) KT5))
noncomputable def S18  (a0 : Int) : Option Int :=
  some (IntKind.wrap .i64 (8 + (iandn .i64 (IntKind.wrap .i64 (a0 + 7)) 7)))
theorem t18  (a0 : Int) : fnT (CxL Try.Θ (kOf []) (lOf [])) Try.f18 (.int .i64) [⟨(.int .i64), a0⟩] = S18  a0 := by kernel_rfl
noncomputable def S9   : Option Int :=
  some 0
theorem t9   : fnT (CxL Try.Θ (kOf []) (lOf [])) Try.f9 (.int .i64) [⟨.ptr, none⟩] = S9   := by kernel_rfl
noncomputable def S13  (a1 : Int) : Option (Int × (Int × Unit)) :=
  some (0, 1, ())
theorem t13  (a1 : Int) : fnT (CxL Try.Θ (kOf []) (lOf [])) Try.f13 (.tup (.int .u64) KT0) [⟨.ptr, none⟩, ⟨(.int .i64), a1⟩] = S13  a1 := by kernel_rfl
noncomputable def S7n  (a1 : (Int × KD1)) : Option (Int × Unit) :=
  some (1, ())
theorem t7n  (a1 : (Int × KD1)) : fnNil (CxL Try.Θ (kOf []) (lOf [])) Try.f7 KT0 [⟨.ptr, none⟩, ⟨(.pair (.int .i64) KT3), a1⟩] = S7n  a1 := by kernel_rfl
noncomputable def S21  (a1 : Int) (a2 : Bool) : Option Int :=
  some 1
theorem t21  (a1 : Int) (a2 : Bool) : fnT (CxL Try.Θ (kOf []) (lOf [])) Try.f21 (.int .i64) [⟨.ptr, none⟩, ⟨(.int .u64), a1⟩, ⟨.bool, a2⟩] = S21  a1 a2 := by kernel_rfl
noncomputable def S15 (v21 : (Int × Bool × Unit) → Int) (k21 : (Int × Bool × Unit) → Bool) (a1 : Int) : Option Int :=
  (bif (tt 1 (k21 (a1, true, ()))) then some (v21 (a1, true, ())) else none)
theorem t15 (v21 : (Int × Bool × Unit) → Int) (k21 : (Int × Bool × Unit) → Bool) (a1 : Int) : fnT (CxL Try.Θ (kOf [(21, sm [.ptr, (.int .u64), .bool] (.int .i64) (fun x => v21 x.2) (fun x => x.1.isNone && k21 x.2))]) (lOf [])) Try.f15 (.int .i64) [⟨.ptr, none⟩, ⟨(.int .u64), a1⟩] = S15 v21 k21 a1 := by kernel_rfl
noncomputable def S16 (v21 : (Int × Bool × Unit) → Int) (k21 : (Int × Bool × Unit) → Bool) (a1 : Int) : Option Int :=
  (bif (tt 1 (k21 (a1, false, ()))) then some (v21 (a1, false, ())) else none)
theorem t16 (v21 : (Int × Bool × Unit) → Int) (k21 : (Int × Bool × Unit) → Bool) (a1 : Int) : fnT (CxL Try.Θ (kOf [(21, sm [.ptr, (.int .u64), .bool] (.int .i64) (fun x => v21 x.2) (fun x => x.1.isNone && k21 x.2))]) (lOf [])) Try.f16 (.int .i64) [⟨.ptr, none⟩, ⟨(.int .u64), a1⟩] = S16 v21 k21 a1 := by kernel_rfl
noncomputable def S8 (v13 : (Int × Unit) → (Int × (Int × Unit))) (k13 : (Int × Unit) → Bool) (a1 : (List UInt8)) : Option Int :=
  (bif (!(decide ((v13 (((a1.length : Nat) : Int), ())).2.1 = 0))) then (bif (tt 1 (k13 (((a1.length : Nat) : Int), ()))) then some (v13 (((a1.length : Nat) : Int), ())).2.1 else none) else none)
theorem t8 (v13 : (Int × Unit) → (Int × (Int × Unit))) (k13 : (Int × Unit) → Bool) (a1 : (List UInt8)) : fnT (CxL Try.Θ (kOf [(13, sm [.ptr, (.int .i64)] (.tup (.int .u64) KT0) (fun x => v13 x.2) (fun x => x.1.isNone && k13 x.2))]) (lOf [])) Try.f8 (.int .i64) [⟨.ptr, none⟩, ⟨.str, a1⟩] = S8 v13 k13 a1 := by kernel_rfl
noncomputable def S11   : Option (List (List UInt8)) :=
  some []
theorem t11   : fnT (CxL Try.Θ (kOf []) (lOf [])) Try.f11 (.vsl .str) [⟨.ptr, none⟩] = S11   := by kernel_rfl
noncomputable def S17   : Option Int :=
  some 1
theorem t17   : fnT (CxL Try.Θ (kOf []) (lOf [])) Try.f17 (.int .i64) [⟨.ptr, none⟩] = S17   := by kernel_rfl
noncomputable def S5 (v7 : ((Int × KD1) × Unit) → (Int × Unit)) (k7 : ((Int × KD1) × Unit) → Bool) (v8 : ((List UInt8) × Unit) → Int) (k8 : ((List UInt8) × Unit) → Bool) (v9 : (Unit) → Int) (k9 : (Unit) → Bool) (v11 : (Unit) → (List (List UInt8))) (k11 : (Unit) → Bool) (v12 : (Unit) → Bool) (k12 : (Unit) → Bool) (v13 : (Int × Unit) → (Int × (Int × Unit))) (k13 : (Int × Unit) → Bool) (v15 : (Int × Unit) → Int) (k15 : (Int × Unit) → Bool) (v16 : (Int × Unit) → Int) (k16 : (Int × Unit) → Bool) (v17 : (Unit) → Int) (k17 : (Unit) → Bool) (a0 : (Int × (Int × KD4))) : Option Bool :=
  (bif (decide ((v13 (a0.2.1, ())).2.1 = 1)) then
    (bif (decide ((v7 ((27, (0, (0, (64, ())))), ())).1 = 1)) then
      (bif (decide ((v15 (5, ())) = 1)) then
        (bif (decide ((v16 (5, ())) = 1)) then
          (bif (decide ((v8 (a0.2.2.2.1, ())) = 1)) then
            (bif (decide ((((v11 (())).length : Nat) : Int) = 0)) then
              (bif (decide ((v9 (())) = 0)) then
                (bif (decide ((v17 (())) = 1)) then
                  (bif ((k12 (())) && ((k17 (())) && ((k9 (())) && ((k11 (())) && ((k8 (a0.2.2.2.1, ())) && ((k16 (5, ())) && ((k15 (5, ())) && ((k7 ((27, (0, (0, (64, ())))), ())) && (tt 1 (k13 (a0.2.1, ()))))))))))) then some (v12 (())) else none)
                else
                  (bif ((k17 (())) && ((k9 (())) && ((k11 (())) && ((k8 (a0.2.2.2.1, ())) && ((k16 (5, ())) && ((k15 (5, ())) && ((k7 ((27, (0, (0, (64, ())))), ())) && (tt 1 (k13 (a0.2.1, ())))))))))) then some false else none))
              else
                (bif ((k9 (())) && ((k11 (())) && ((k8 (a0.2.2.2.1, ())) && ((k16 (5, ())) && ((k15 (5, ())) && ((k7 ((27, (0, (0, (64, ())))), ())) && (tt 1 (k13 (a0.2.1, ()))))))))) then some false else none))
            else
              (bif ((k11 (())) && ((k8 (a0.2.2.2.1, ())) && ((k16 (5, ())) && ((k15 (5, ())) && ((k7 ((27, (0, (0, (64, ())))), ())) && (tt 1 (k13 (a0.2.1, ())))))))) then some false else none))
          else
            (bif ((k8 (a0.2.2.2.1, ())) && ((k16 (5, ())) && ((k15 (5, ())) && ((k7 ((27, (0, (0, (64, ())))), ())) && (tt 1 (k13 (a0.2.1, ()))))))) then some false else none))
        else
          (bif ((k16 (5, ())) && ((k15 (5, ())) && ((k7 ((27, (0, (0, (64, ())))), ())) && (tt 1 (k13 (a0.2.1, ())))))) then some false else none))
      else
        (bif ((k15 (5, ())) && ((k7 ((27, (0, (0, (64, ())))), ())) && (tt 1 (k13 (a0.2.1, ()))))) then some false else none))
    else
      (bif ((k7 ((27, (0, (0, (64, ())))), ())) && (tt 1 (k13 (a0.2.1, ())))) then some false else none))
  else
    (bif ((k7 ((27, (0, (0, (64, ())))), ())) && (tt 1 (k13 (a0.2.1, ())))) then some false else none))
theorem t5 (v7 : ((Int × KD1) × Unit) → (Int × Unit)) (k7 : ((Int × KD1) × Unit) → Bool) (v8 : ((List UInt8) × Unit) → Int) (k8 : ((List UInt8) × Unit) → Bool) (v9 : (Unit) → Int) (k9 : (Unit) → Bool) (v11 : (Unit) → (List (List UInt8))) (k11 : (Unit) → Bool) (v12 : (Unit) → Bool) (k12 : (Unit) → Bool) (v13 : (Int × Unit) → (Int × (Int × Unit))) (k13 : (Int × Unit) → Bool) (v15 : (Int × Unit) → Int) (k15 : (Int × Unit) → Bool) (v16 : (Int × Unit) → Int) (k16 : (Int × Unit) → Bool) (v17 : (Unit) → Int) (k17 : (Unit) → Bool) (a0 : (Int × (Int × KD4))) : fnT (CxL Try.Θ (kOf [(7, smNil [.ptr, (.pair (.int .i64) KT3)] KT0 (fun x => v7 x.2) (fun x => x.1.isNone && k7 x.2)), (8, sm [.ptr, .str] (.int .i64) (fun x => v8 x.2) (fun x => x.1.isNone && k8 x.2)), (9, sm [.ptr] (.int .i64) (fun x => v9 x.2) (fun x => x.1.isNone && k9 x.2)), (11, sm [.ptr] (.vsl .str) (fun x => v11 x.2) (fun x => x.1.isNone && k11 x.2)), (12, sm [] .bool v12 k12), (13, sm [.ptr, (.int .i64)] (.tup (.int .u64) KT0) (fun x => v13 x.2) (fun x => x.1.isNone && k13 x.2)), (15, sm [.ptr, (.int .u64)] (.int .i64) (fun x => v15 x.2) (fun x => x.1.isNone && k15 x.2)), (16, sm [.ptr, (.int .u64)] (.int .i64) (fun x => v16 x.2) (fun x => x.1.isNone && k16 x.2)), (17, sm [.ptr] (.int .i64) (fun x => v17 x.2) (fun x => x.1.isNone && k17 x.2))]) (lOf [])) Try.f5 .bool [⟨KT6, a0⟩] = S5 v7 k7 v8 k8 v9 k9 v11 k11 v12 k12 v13 k13 v15 k15 v16 k16 v17 k17 a0 := by kernel_rfl
end Go.Proofs
