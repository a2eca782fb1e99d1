import Derived.Test.YtnbpakmcibjmaaaT
import Derived.Test.YtnbpakmcibjmaaaGc
namespace Go.Proofs
open Go.GX
set_option linter.unusedVariables false
set_option maxRecDepth 100000
@[reducible] def KD0 : Type := ((List UInt8) × (Int × Unit))
@[reducible] def KT1 : Ty := (.tup (.int .i64) .tnil)
@[reducible] def KD2 : Type := (Int × ((List UInt8) × Unit))
@[reducible] def KT3 : Ty := (.pair (.int .i64) (.pair .str .unit))
noncomputable def S13   : Option KD0 :=
  some ([], 1, ())
theorem t13   : fnT (CxL Try.Θ (kOf []) (lOf [])) Try.f13 (.tup .str KT1) [⟨.ptr, none⟩] = S13   := by kernel_rfl
noncomputable def S11 (v13 : (Unit) → KD0) (k13 : (Unit) → Bool)  : Option KD0 :=
  (bif (decide ((v13 (())).2.1 = 0)) then none else (bif (tt 1 (k13 (()))) then some ((v13 (())).1, (v13 (())).2.1, ()) else none))
theorem t11 (v13 : (Unit) → KD0) (k13 : (Unit) → Bool)  : fnT (CxL Try.Θ (kOf [(13, sm [.ptr] (.tup .str KT1) (fun x => v13 x.2) (fun x => x.1.isNone && k13 x.2))]) (lOf [])) Try.f11 (.tup .str KT1) [⟨.ptr, none⟩] = S11 v13 k13  := by kernel_rfl
noncomputable def S9  (a1 : (List UInt8)) (a2 : Int) : Option Int :=
  some 1
theorem t9  (a1 : (List UInt8)) (a2 : Int) : fnT (CxL Try.Θ (kOf []) (lOf [])) Try.f9 (.int .i64) [⟨.ptr, none⟩, ⟨.str, a1⟩, ⟨(.int .i64), a2⟩] = S9  a1 a2 := by kernel_rfl
noncomputable def S15   : Option Int :=
  some 0
theorem t15   : fnT (CxL Try.Θ (kOf []) (lOf [])) Try.f15 (.int .i64) [⟨.ptr, none⟩] = S15   := by kernel_rfl
noncomputable def S5 (v9 : ((List UInt8) × Int × Unit) → Int) (k9 : ((List UInt8) × Int × Unit) → Bool) (v11 : (Unit) → KD0) (k11 : (Unit) → Bool) (v13 : (Unit) → KD0) (k13 : (Unit) → Bool) (v15 : (Unit) → Int) (k15 : (Unit) → Bool) (v16 : (Unit) → Bool) (k16 : (Unit) → Bool) (a0 : (Int × KD2)) : Option Bool :=
  (bif (decide ((v9 (a0.2.2.1, a0.2.1, ())) = 1)) then
    (bif (decide ((v11 (())).2.1 = 1)) then
      (bif (decide ((v13 (())).2.1 = 1)) then
        (bif (decide ((v15 (())) = 0)) then
          (bif ((k16 (())) && ((k15 (())) && ((k9 (a0.2.2.1, a0.2.1, ())) && ((k13 (())) && (tt 1 (k11 (()))))))) then some (v16 (())) else none)
        else
          (bif ((k15 (())) && ((k9 (a0.2.2.1, a0.2.1, ())) && ((k13 (())) && (tt 1 (k11 (())))))) then some false else none))
      else
        (bif ((k9 (a0.2.2.1, a0.2.1, ())) && ((k13 (())) && (tt 1 (k11 (()))))) then some false else none))
    else
      (bif ((k9 (a0.2.2.1, a0.2.1, ())) && ((k13 (())) && (tt 1 (k11 (()))))) then some false else none))
  else
    (bif ((k9 (a0.2.2.1, a0.2.1, ())) && ((k13 (())) && (tt 1 (k11 (()))))) then some false else none))
theorem t5 (v9 : ((List UInt8) × Int × Unit) → Int) (k9 : ((List UInt8) × Int × Unit) → Bool) (v11 : (Unit) → KD0) (k11 : (Unit) → Bool) (v13 : (Unit) → KD0) (k13 : (Unit) → Bool) (v15 : (Unit) → Int) (k15 : (Unit) → Bool) (v16 : (Unit) → Bool) (k16 : (Unit) → Bool) (a0 : (Int × KD2)) : fnT (CxL Try.Θ (kOf [(9, sm [.ptr, .str, (.int .i64)] (.int .i64) (fun x => v9 x.2) (fun x => x.1.isNone && k9 x.2)), (11, sm [.ptr] (.tup .str KT1) (fun x => v11 x.2) (fun x => x.1.isNone && k11 x.2)), (13, sm [.ptr] (.tup .str KT1) (fun x => v13 x.2) (fun x => x.1.isNone && k13 x.2)), (15, sm [.ptr] (.int .i64) (fun x => v15 x.2) (fun x => x.1.isNone && k15 x.2)), (16, sm [] .bool v16 k16)]) (lOf [])) Try.f5 .bool [⟨(.pair (.int .i64) KT3), a0⟩] = S5 v9 k9 v11 k11 v13 k13 v15 k15 v16 k16 a0 := by kernel_rfl
end Go.Proofs
