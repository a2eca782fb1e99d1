import Derived.Test.YtibiflonpfehiaaT
import Derived.Test.YtibiflonpfehiaaGc
namespace Go.Proofs
open Go.GX
set_option linter.unusedVariables false
set_option maxRecDepth 100000
@[reducible] def KD0 : Type := (Int × (Int × (Int × Unit)))
@[reducible] def KD1 : Type := (List (Int × (Int × KD0)))
@[reducible] def KT2 : Ty := (.pair (.int .i64) .unit)
@[reducible] def KT3 : Ty := (.pair (.int .i64) (.pair (.int .i64) KT2))
@[reducible] def KT4 : Ty := (.pair (.int .i64) (.pair (.int .i64) KT3))
@[reducible] def KD5 : Type := ((List Bool) × (Int × Unit))
@[reducible] def KT6 : Ty := (.tup (.int .i64) .tnil)
noncomputable def S23  (a0 : (Int × (Int × KD0))) : Option Bool :=
  some (decide (a0.1 = 24))
theorem t23  (a0 : (Int × (Int × KD0))) : fnT (CxL Try.Θ (kOf []) (lOf [])) Try.f23 .bool [⟨KT4, a0⟩] = S23  a0 := by kernel_rfl
noncomputable def S27  (a0 : (Int × (Int × KD0))) : Option Bool :=
  (bif (decide ((ishr .i64 a0.1 8) = 0)) then
    (bif (decide (a0.2.1 ≥ 0)) then
      (bif (decide (a0.2.1 ≤ 10)) then
        (bif (decide (a0.2.2.1 ≥ 0)) then
          (bif (decide (a0.2.2.1 ≤ 10)) then
            (bif (decide ((IntKind.wrap .i64 (IntKind.wrap .i16 a0.2.2.2.1)) = a0.2.2.2.1)) then some (decide ((IntKind.wrap .i64 (IntKind.wrap .i32 a0.2.2.2.2.1)) = a0.2.2.2.2.1)) else some false)
          else
            some false)
        else
          some false)
      else
        some false)
    else
      some false)
  else
    some false)
theorem t27  (a0 : (Int × (Int × KD0))) : fnT (CxL Try.Θ (kOf []) (lOf [])) Try.f27 .bool [⟨KT4, a0⟩] = S27  a0 := by kernel_rfl
noncomputable def S28  (a0 : (Int × (Int × KD0))) : Option Int :=
  some (iand .i64 a0.1 7)
theorem t28  (a0 : (Int × (Int × KD0))) : fnT (CxL Try.Θ (kOf []) (lOf [])) Try.f28 (.int .i64) [⟨KT4, a0⟩] = S28  a0 := by kernel_rfl
noncomputable def S32  (a0 : (Int × (Int × KD0))) : Option Bool :=
  (bif (!(decide ((iand .i64 a0.1 8) = 0))) then some (decide (a0.2.2.2.2.1 = 0)) else some (decide (a0.2.2.1 = 0)))
theorem t32  (a0 : (Int × (Int × KD0))) : fnT (CxL Try.Θ (kOf []) (lOf [])) Try.f32 .bool [⟨KT4, a0⟩] = S32  a0 := by kernel_rfl
noncomputable def S29 (v28 : ((Int × (Int × KD0)) × Unit) → Int) (k28 : ((Int × (Int × KD0)) × Unit) → Bool) (v32 : ((Int × (Int × KD0)) × Unit) → Bool) (k32 : ((Int × (Int × KD0)) × Unit) → Bool) (a0 : (Int × (Int × KD0))) : Option Bool :=
  (bif (decide (a0.2.1 = 10)) then
    (bif (tt 1 (k28 (a0, ()))) then some false else none)
  else
    (bif (decide ((iand .i64 a0.1 240) = 208)) then
      (bif (decide (a0.1 = 212)) then
        (bif (decide (a0.2.2.1 = 0)) then
          (bif (decide (a0.2.2.2.1 = 0)) then
            (bif (decide (a0.2.2.2.2.1 = 16)) then
              (bif (tt 1 (k28 (a0, ()))) then some true else none)
            else
              (bif (decide (a0.2.2.2.2.1 = 32)) then
                (bif (tt 1 (k28 (a0, ()))) then some true else none)
              else
                (bif (tt 1 (k28 (a0, ()))) then some (decide (a0.2.2.2.2.1 = 64)) else none)))
          else
            (bif (tt 1 (k28 (a0, ()))) then some false else none))
        else
          (bif (tt 1 (k28 (a0, ()))) then some false else none))
      else
        (bif (decide (a0.1 = 220)) then
          (bif (decide (a0.2.2.1 = 0)) then
            (bif (decide (a0.2.2.2.1 = 0)) then
              (bif (decide (a0.2.2.2.2.1 = 16)) then
                (bif (tt 1 (k28 (a0, ()))) then some true else none)
              else
                (bif (decide (a0.2.2.2.2.1 = 32)) then
                  (bif (tt 1 (k28 (a0, ()))) then some true else none)
                else
                  (bif (tt 1 (k28 (a0, ()))) then some (decide (a0.2.2.2.2.1 = 64)) else none)))
            else
              (bif (tt 1 (k28 (a0, ()))) then some false else none))
          else
            (bif (tt 1 (k28 (a0, ()))) then some false else none))
        else
          (bif (decide (a0.1 = 215)) then
            (bif (decide (a0.2.2.1 = 0)) then
              (bif (decide (a0.2.2.2.1 = 0)) then
                (bif (decide (a0.2.2.2.2.1 = 16)) then
                  (bif (tt 1 (k28 (a0, ()))) then some true else none)
                else
                  (bif (decide (a0.2.2.2.2.1 = 32)) then
                    (bif (tt 1 (k28 (a0, ()))) then some true else none)
                  else
                    (bif (tt 1 (k28 (a0, ()))) then some (decide (a0.2.2.2.2.1 = 64)) else none)))
              else
                (bif (tt 1 (k28 (a0, ()))) then some false else none))
            else
              (bif (tt 1 (k28 (a0, ()))) then some false else none))
          else
            (bif (tt 1 (k28 (a0, ()))) then some false else none))))
    else
      (bif (decide ((iand .i64 a0.1 240) = 128)) then
        (bif (decide ((iand .i64 a0.1 8) = 0)) then
          (bif (decide (a0.2.2.1 = 0)) then
            (bif (decide (a0.2.2.2.1 = 0)) then
              (bif (tt 1 (k28 (a0, ()))) then some (decide (a0.2.2.2.2.1 = 0)) else none)
            else
              (bif (tt 1 (k28 (a0, ()))) then some false else none))
          else
            (bif (tt 1 (k28 (a0, ()))) then some false else none))
        else
          (bif (tt 1 (k28 (a0, ()))) then some false else none))
      else
        (bif (decide ((iand .i64 a0.1 240) = 224)) then
          (bif (tt 1 (k28 (a0, ()))) then some false else none)
        else
          (bif (decide ((iand .i64 a0.1 240) = 240)) then
            (bif (tt 1 (k28 (a0, ()))) then some false else none)
          else
            (bif (decide ((iand .i64 a0.1 240) = 48)) then
              (bif (v32 (a0, ())) then
                (bif (decide ((ishr .i64 a0.2.2.2.1 1) = 0)) then
                  (bif (!(decide ((iand .i64 a0.1 8) = 0))) then
                    (bif ((k32 (a0, ())) && (tt 1 (k28 (a0, ())))) then some true else none)
                  else
                    (bif ((k32 (a0, ())) && (tt 1 (k28 (a0, ())))) then some (!(decide (a0.2.2.2.2.1 = 0))) else none))
                else
                  (bif ((k32 (a0, ())) && (tt 1 (k28 (a0, ())))) then some false else none))
              else
                (bif ((k32 (a0, ())) && (tt 1 (k28 (a0, ())))) then some false else none))
            else
              (bif (decide ((iand .i64 a0.1 240) = 144)) then
                (bif (v32 (a0, ())) then
                  (bif (decide ((ishr .i64 a0.2.2.2.1 1) = 0)) then
                    (bif (!(decide ((iand .i64 a0.1 8) = 0))) then
                      (bif ((k32 (a0, ())) && (tt 1 (k28 (a0, ())))) then some true else none)
                    else
                      (bif ((k32 (a0, ())) && (tt 1 (k28 (a0, ())))) then some (!(decide (a0.2.2.2.2.1 = 0))) else none))
                  else
                    (bif ((k32 (a0, ())) && (tt 1 (k28 (a0, ())))) then some false else none))
                else
                  (bif ((k32 (a0, ())) && (tt 1 (k28 (a0, ())))) then some false else none))
              else
                (bif (decide ((iand .i64 a0.1 240) = 176)) then
                  (bif (!(decide ((iand .i64 a0.1 8) = 0))) then
                    (bif (decide (a0.2.2.2.1 = 8)) then
                      (bif (v32 (a0, ())) then
                        (bif (decide (a0.2.2.2.1 = 0)) then
                          (bif ((k32 (a0, ())) && (tt 1 (k28 (a0, ())))) then some true else none)
                        else
                          (bif ((k32 (a0, ())) && (tt 1 (k28 (a0, ())))) then some true else none))
                      else
                        (bif ((k32 (a0, ())) && (tt 1 (k28 (a0, ())))) then some false else none))
                    else
                      (bif (decide (a0.2.2.2.1 = 16)) then
                        (bif (v32 (a0, ())) then
                          (bif (decide (a0.2.2.2.1 = 0)) then
                            (bif ((k32 (a0, ())) && (tt 1 (k28 (a0, ())))) then some true else none)
                          else
                            (bif ((k32 (a0, ())) && (tt 1 (k28 (a0, ())))) then some true else none))
                        else
                          (bif ((k32 (a0, ())) && (tt 1 (k28 (a0, ())))) then some false else none))
                      else
                        (bif (decide (a0.2.2.2.1 = 32)) then
                          (bif (v32 (a0, ())) then
                            (bif (decide (a0.2.2.2.1 = 0)) then
                              (bif ((k32 (a0, ())) && (tt 1 (k28 (a0, ())))) then some true else none)
                            else
                              (bif ((k32 (a0, ())) && (tt 1 (k28 (a0, ())))) then some (decide ((v28 (a0, ())) = 7)) else none))
                          else
                            (bif ((k32 (a0, ())) && (tt 1 (k28 (a0, ())))) then some false else none))
                        else
                          (bif (v32 (a0, ())) then
                            (bif (decide (a0.2.2.2.1 = 0)) then
                              (bif ((k32 (a0, ())) && (tt 1 (k28 (a0, ())))) then some true else none)
                            else
                              (bif ((k32 (a0, ())) && (tt 1 (k28 (a0, ())))) then some false else none))
                          else
                            (bif ((k32 (a0, ())) && (tt 1 (k28 (a0, ())))) then some false else none)))))
                  else
                    (bif (v32 (a0, ())) then
                      (bif (decide (a0.2.2.2.1 = 0)) then
                        (bif ((k32 (a0, ())) && (tt 1 (k28 (a0, ())))) then some true else none)
                      else
                        (bif ((k32 (a0, ())) && (tt 1 (k28 (a0, ())))) then some false else none))
                    else
                      (bif ((k32 (a0, ())) && (tt 1 (k28 (a0, ())))) then some false else none)))
                else
                  (bif (decide ((iand .i64 a0.1 240) = 96)) then
                    (bif (decide ((v28 (a0, ())) = 7)) then
                      (bif (v32 (a0, ())) then
                        (bif (decide (a0.2.2.2.1 = 0)) then
                          (bif (!(decide ((iand .i64 a0.1 8) = 0))) then
                            (bif ((k32 (a0, ())) && (tt 1 (k28 (a0, ())))) then some true else none)
                          else
                            (bif (decide (a0.2.2.2.2.1 ≥ 0)) then
                              (bif ((k32 (a0, ())) && (tt 1 (k28 (a0, ())))) then some (decide (a0.2.2.2.2.1 ≤ 63)) else none)
                            else
                              (bif ((k32 (a0, ())) && (tt 1 (k28 (a0, ())))) then some false else none)))
                        else
                          (bif ((k32 (a0, ())) && (tt 1 (k28 (a0, ())))) then some false else none))
                      else
                        (bif ((k32 (a0, ())) && (tt 1 (k28 (a0, ())))) then some false else none))
                    else
                      (bif (v32 (a0, ())) then
                        (bif (decide (a0.2.2.2.1 = 0)) then
                          (bif (!(decide ((iand .i64 a0.1 8) = 0))) then
                            (bif ((k32 (a0, ())) && (tt 1 (k28 (a0, ())))) then some true else none)
                          else
                            (bif (decide (a0.2.2.2.2.1 ≥ 0)) then
                              (bif ((k32 (a0, ())) && (tt 1 (k28 (a0, ())))) then some (decide (a0.2.2.2.2.1 ≤ 31)) else none)
                            else
                              (bif ((k32 (a0, ())) && (tt 1 (k28 (a0, ())))) then some false else none)))
                        else
                          (bif ((k32 (a0, ())) && (tt 1 (k28 (a0, ())))) then some false else none))
                      else
                        (bif ((k32 (a0, ())) && (tt 1 (k28 (a0, ())))) then some false else none)))
                  else
                    (bif (decide ((iand .i64 a0.1 240) = 112)) then
                      (bif (decide ((v28 (a0, ())) = 7)) then
                        (bif (v32 (a0, ())) then
                          (bif (decide (a0.2.2.2.1 = 0)) then
                            (bif (!(decide ((iand .i64 a0.1 8) = 0))) then
                              (bif ((k32 (a0, ())) && (tt 1 (k28 (a0, ())))) then some true else none)
                            else
                              (bif (decide (a0.2.2.2.2.1 ≥ 0)) then
                                (bif ((k32 (a0, ())) && (tt 1 (k28 (a0, ())))) then some (decide (a0.2.2.2.2.1 ≤ 63)) else none)
                              else
                                (bif ((k32 (a0, ())) && (tt 1 (k28 (a0, ())))) then some false else none)))
                          else
                            (bif ((k32 (a0, ())) && (tt 1 (k28 (a0, ())))) then some false else none))
                        else
                          (bif ((k32 (a0, ())) && (tt 1 (k28 (a0, ())))) then some false else none))
                      else
                        (bif (v32 (a0, ())) then
                          (bif (decide (a0.2.2.2.1 = 0)) then
                            (bif (!(decide ((iand .i64 a0.1 8) = 0))) then
                              (bif ((k32 (a0, ())) && (tt 1 (k28 (a0, ())))) then some true else none)
                            else
                              (bif (decide (a0.2.2.2.2.1 ≥ 0)) then
                                (bif ((k32 (a0, ())) && (tt 1 (k28 (a0, ())))) then some (decide (a0.2.2.2.2.1 ≤ 31)) else none)
                              else
                                (bif ((k32 (a0, ())) && (tt 1 (k28 (a0, ())))) then some false else none)))
                          else
                            (bif ((k32 (a0, ())) && (tt 1 (k28 (a0, ())))) then some false else none))
                        else
                          (bif ((k32 (a0, ())) && (tt 1 (k28 (a0, ())))) then some false else none)))
                    else
                      (bif (decide ((iand .i64 a0.1 240) = 192)) then
                        (bif (decide ((v28 (a0, ())) = 7)) then
                          (bif (v32 (a0, ())) then
                            (bif (decide (a0.2.2.2.1 = 0)) then
                              (bif (!(decide ((iand .i64 a0.1 8) = 0))) then
                                (bif ((k32 (a0, ())) && (tt 1 (k28 (a0, ())))) then some true else none)
                              else
                                (bif (decide (a0.2.2.2.2.1 ≥ 0)) then
                                  (bif ((k32 (a0, ())) && (tt 1 (k28 (a0, ())))) then some (decide (a0.2.2.2.2.1 ≤ 63)) else none)
                                else
                                  (bif ((k32 (a0, ())) && (tt 1 (k28 (a0, ())))) then some false else none)))
                            else
                              (bif ((k32 (a0, ())) && (tt 1 (k28 (a0, ())))) then some false else none))
                          else
                            (bif ((k32 (a0, ())) && (tt 1 (k28 (a0, ())))) then some false else none))
                        else
                          (bif (v32 (a0, ())) then
                            (bif (decide (a0.2.2.2.1 = 0)) then
                              (bif (!(decide ((iand .i64 a0.1 8) = 0))) then
                                (bif ((k32 (a0, ())) && (tt 1 (k28 (a0, ())))) then some true else none)
                              else
                                (bif (decide (a0.2.2.2.2.1 ≥ 0)) then
                                  (bif ((k32 (a0, ())) && (tt 1 (k28 (a0, ())))) then some (decide (a0.2.2.2.2.1 ≤ 31)) else none)
                                else
                                  (bif ((k32 (a0, ())) && (tt 1 (k28 (a0, ())))) then some false else none)))
                            else
                              (bif ((k32 (a0, ())) && (tt 1 (k28 (a0, ())))) then some false else none))
                          else
                            (bif ((k32 (a0, ())) && (tt 1 (k28 (a0, ())))) then some false else none)))
                      else
                        (bif (v32 (a0, ())) then
                          (bif ((k32 (a0, ())) && (tt 1 (k28 (a0, ())))) then some (decide (a0.2.2.2.1 = 0)) else none)
                        else
                          (bif ((k32 (a0, ())) && (tt 1 (k28 (a0, ())))) then some false else none)))))))))))))
theorem t29 (v28 : ((Int × (Int × KD0)) × Unit) → Int) (k28 : ((Int × (Int × KD0)) × Unit) → Bool) (v32 : ((Int × (Int × KD0)) × Unit) → Bool) (k32 : ((Int × (Int × KD0)) × Unit) → Bool) (a0 : (Int × (Int × KD0))) : fnT (CxL Try.Θ (kOf [(28, sm [KT4] (.int .i64) v28 k28), (32, sm [KT4] .bool v32 k32)]) (lOf [])) Try.f29 .bool [⟨KT4, a0⟩] = S29 v28 k28 v32 k32 a0 := by kernel_rfl
noncomputable def S30 (v28 : ((Int × (Int × KD0)) × Unit) → Int) (k28 : ((Int × (Int × KD0)) × Unit) → Bool) (a0 : (Int × (Int × KD0))) : Option Int :=
  (bif (decide ((v28 (a0, ())) = 0)) then
    (bif (tt 1 (k28 (a0, ()))) then some 0 else none)
  else
    (bif (decide ((v28 (a0, ())) > 3)) then
      (bif (tt 1 (k28 (a0, ()))) then some 0 else none)
    else
      (bif (decide ((iand .i64 a0.1 24) = 24)) then
        (bif (tt 1 (k28 (a0, ()))) then some 8 else none)
      else
        (bif ((decide (0 ≤ (IntKind.wrap .i64 (Int.tdiv (iand .i64 a0.1 24) 8)))) && (tt 1 (k28 (a0, ())))) then some (ishr .i64 4 (IntKind.wrap .i64 (Int.tdiv (iand .i64 a0.1 24) 8))) else none))))
theorem t30 (v28 : ((Int × (Int × KD0)) × Unit) → Int) (k28 : ((Int × (Int × KD0)) × Unit) → Bool) (a0 : (Int × (Int × KD0))) : fnT (CxL Try.Θ (kOf [(28, sm [KT4] (.int .i64) v28 k28)]) (lOf [])) Try.f30 (.int .i64) [⟨KT4, a0⟩] = S30 v28 k28 a0 := by kernel_rfl
def hd35_0 : List It := [.sl 0 (.vsl (.int .i64)), .sl 1 (.int .i64), .sl 7 (.int .i64), .sl 8 (.int .i64)]
def ys35_0 : Ways := [((.exit 0), []), (.ret, [.sl 4 (.int .i64)])]
noncomputable def R35_0 (lv0 : ((List Int) × Int × Int × Int × Unit) → ((Unit) ⊕ (Int × Unit))) (lk0 : ((List Int) × Int × Int × Int × Unit) → Bool) (x0 : (List Int)) (x1 : Int) (x2 : Int) (x3 : Int) : Option (((List Int) × Int × Int × Int × Unit) ⊕ ((Unit) ⊕ (Int × Unit))) :=
  (bif (decide (x3 < x2)) then
    (bif (decide (x1 = (x0.getD (Int.toNat x3) 0))) then
      (bif (tt 2 ((decide (0 ≤ x3)) && (decide (x3 < ((x0.length : Nat) : Int))))) then some (.inr (.inr (x3, ()))) else none)
    else
      (bif (tt 2 ((decide (0 ≤ x3)) && (decide (x3 < ((x0.length : Nat) : Int))))) then some (.inl (x0, x1, x2, (IntKind.wrap .i64 (x3 + 1)), ())) else none))
  else
    some (.inr (.inl (()))))
theorem r35_0 (lv0 : ((List Int) × Int × Int × Int × Unit) → ((Unit) ⊕ (Int × Unit))) (lk0 : ((List Int) × Int × Int × Int × Unit) → Bool) (x0 : (List Int)) (x1 : Int) (x2 : Int) (x3 : Int) : codeT (CxL Try.Θ (kOf []) (lOf [(0, orc 19 24 0 hd35_0 ys35_0 lv0 lk0)])) (loopB 0 (bodyF Try.f35)) (mkS 19 24 hd35_0 (x0, x1, x2, x3, ())) (leafR 19 hd35_0 ys35_0) = R35_0 lv0 lk0 x0 x1 x2 x3 := by kernel_rfl
noncomputable def S35 (lv0 : ((List Int) × Int × Int × Int × Unit) → ((Unit) ⊕ (Int × Unit))) (lk0 : ((List Int) × Int × Int × Int × Unit) → Bool) (a0 : (List Int)) (a1 : Int) : Option Int :=
  (bif (isL (lv0 (a0, a1, ((a0.length : Nat) : Int), 0, ()))) then
    (bif (tt 1 (lk0 (a0, a1, ((a0.length : Nat) : Int), 0, ()))) then some (-1) else none)
  else
    (bif (tt 1 (lk0 (a0, a1, ((a0.length : Nat) : Int), 0, ()))) then some (getR ((0, ()) : (Int × Unit)) (lv0 (a0, a1, ((a0.length : Nat) : Int), 0, ()))).1 else none))
theorem t35 (lv0 : ((List Int) × Int × Int × Int × Unit) → ((Unit) ⊕ (Int × Unit))) (lk0 : ((List Int) × Int × Int × Int × Unit) → Bool) (a0 : (List Int)) (a1 : Int) : fnT (CxL Try.Θ (kOf []) (lOf [(0, orc 19 24 0 hd35_0 ys35_0 lv0 lk0)])) Try.f35 (.int .i64) [⟨(.vsl (.int .i64)), a0⟩, ⟨(.int .i64), a1⟩] = S35 lv0 lk0 a0 a1 := by kernel_rfl
noncomputable def S24 (v35 : ((List Int) × Int × Unit) → Int) (k35 : ((List Int) × Int × Unit) → Bool) (a0 : (List Int)) (a1 : Int) : Option Bool :=
  (bif (tt 1 (k35 (a0, a1, ()))) then some (decide ((v35 (a0, a1, ())) ≥ 0)) else none)
theorem t24 (v35 : ((List Int) × Int × Unit) → Int) (k35 : ((List Int) × Int × Unit) → Bool) (a0 : (List Int)) (a1 : Int) : fnT (CxL Try.Θ (kOf [(35, sm [(.vsl (.int .i64)), (.int .i64)] (.int .i64) v35 k35)]) (lOf [])) Try.f24 .bool [⟨(.vsl (.int .i64)), a0⟩, ⟨(.int .i64), a1⟩] = S24 v35 k35 a0 a1 := by kernel_rfl
noncomputable def S31 (v24 : ((List Int) × Int × Unit) → Bool) (k24 : ((List Int) × Int × Unit) → Bool) (a0 : Int) : Option Bool :=
  (bif (tt 1 (k24 ([0, 1, 64, 65, 80, 81, 160, 161, 225, 241], a0, ()))) then some (v24 ([0, 1, 64, 65, 80, 81, 160, 161, 225, 241], a0, ())) else none)
theorem t31 (v24 : ((List Int) × Int × Unit) → Bool) (k24 : ((List Int) × Int × Unit) → Bool) (a0 : Int) : fnT (CxL Try.Θ (kOf [(24, sm [(.vsl (.int .i64)), (.int .i64)] .bool v24 k24)]) (lOf [])) Try.f31 .bool [⟨(.int .i64), a0⟩] = S31 v24 k24 a0 := by kernel_rfl
noncomputable def S17 (v23 : ((Int × (Int × KD0)) × Unit) → Bool) (k23 : ((Int × (Int × KD0)) × Unit) → Bool) (v27 : ((Int × (Int × KD0)) × Unit) → Bool) (k27 : ((Int × (Int × KD0)) × Unit) → Bool) (v28 : ((Int × (Int × KD0)) × Unit) → Int) (k28 : ((Int × (Int × KD0)) × Unit) → Bool) (v29 : ((Int × (Int × KD0)) × Unit) → Bool) (k29 : ((Int × (Int × KD0)) × Unit) → Bool) (v30 : ((Int × (Int × KD0)) × Unit) → Int) (k30 : ((Int × (Int × KD0)) × Unit) → Bool) (v31 : (Int × Unit) → Bool) (k31 : (Int × Unit) → Bool) (v32 : ((Int × (Int × KD0)) × Unit) → Bool) (k32 : ((Int × (Int × KD0)) × Unit) → Bool) (a0 : (Int × (Int × KD0))) : Option Bool :=
  (bif (v23 (a0, ())) then
    (bif (v27 (a0, ())) then
      (bif (decide (a0.2.1 < 10)) then
        (bif (decide (a0.2.2.2.1 = 0)) then
          (bif (decide (a0.2.2.1 = 0)) then
            (bif ((k27 (a0, ())) && (tt 1 (k23 (a0, ())))) then some true else none)
          else
            (bif (decide (a0.2.2.1 = 1)) then
              (bif ((k27 (a0, ())) && (tt 1 (k23 (a0, ())))) then some (decide (a0.2.2.2.2.1 ≥ 0)) else none)
            else
              (bif ((k27 (a0, ())) && (tt 1 (k23 (a0, ())))) then some false else none)))
        else
          (bif ((k27 (a0, ())) && (tt 1 (k23 (a0, ())))) then some false else none))
      else
        (bif ((k27 (a0, ())) && (tt 1 (k23 (a0, ())))) then some false else none))
    else
      (bif ((k27 (a0, ())) && (tt 1 (k23 (a0, ())))) then some false else none))
  else
    (bif (!(v27 (a0, ()))) then
      (bif ((k27 (a0, ())) && (tt 1 (k23 (a0, ())))) then some false else none)
    else
      (bif (decide ((v28 (a0, ())) = 4)) then
        (bif ((k29 (a0, ())) && ((k28 (a0, ())) && ((k27 (a0, ())) && (tt 1 (k23 (a0, ())))))) then some (v29 (a0, ())) else none)
      else
        (bif (decide ((v28 (a0, ())) = 7)) then
          (bif ((k29 (a0, ())) && ((k28 (a0, ())) && ((k27 (a0, ())) && (tt 1 (k23 (a0, ())))))) then some (v29 (a0, ())) else none)
        else
          (bif (decide ((v28 (a0, ())) = 1)) then
            (bif (decide (a0.2.2.2.2.1 = 0)) then
              (bif (decide (a0.2.1 < 10)) then
                (bif (decide ((ishr .i64 a0.1 5) = 3)) then
                  (bif ((k28 (a0, ())) && ((k27 (a0, ())) && (tt 1 (k23 (a0, ()))))) then some true else none)
                else
                  (bif (decide ((ishr .i64 a0.1 5) = 4)) then
                    (bif ((k30 (a0, ())) && ((k28 (a0, ())) && ((k27 (a0, ())) && (tt 1 (k23 (a0, ())))))) then some (decide ((v30 (a0, ())) < 8)) else none)
                  else
                    (bif ((k28 (a0, ())) && ((k27 (a0, ())) && (tt 1 (k23 (a0, ()))))) then some false else none)))
              else
                (bif ((k28 (a0, ())) && ((k27 (a0, ())) && (tt 1 (k23 (a0, ()))))) then some false else none))
            else
              (bif ((k28 (a0, ())) && ((k27 (a0, ())) && (tt 1 (k23 (a0, ()))))) then some false else none))
          else
            (bif (decide ((v28 (a0, ())) = 2)) then
              (bif (decide ((ishr .i64 a0.1 5) = 3)) then
                (bif ((k28 (a0, ())) && ((k27 (a0, ())) && (tt 1 (k23 (a0, ()))))) then some (decide (a0.2.2.1 = 0)) else none)
              else
                (bif ((k28 (a0, ())) && ((k27 (a0, ())) && (tt 1 (k23 (a0, ()))))) then some false else none))
            else
              (bif (decide ((v28 (a0, ())) = 3)) then
                (bif (decide ((ishr .i64 a0.1 5) = 3)) then
                  (bif ((k28 (a0, ())) && ((k27 (a0, ())) && (tt 1 (k23 (a0, ()))))) then some (decide (a0.2.2.2.2.1 = 0)) else none)
                else
                  (bif (decide (a0.1 = 195)) then
                    (bif (v31 (a0.2.2.2.2.1, ())) then
                      (bif (decide (a0.2.2.2.2.1 = 241)) then
                        (bif ((k31 (a0.2.2.2.2.1, ())) && ((k28 (a0, ())) && ((k27 (a0, ())) && (tt 1 (k23 (a0, ())))))) then some true else none)
                      else
                        (bif (decide ((iand .i64 a0.2.2.2.2.1 1) = 0)) then
                          (bif ((k31 (a0.2.2.2.2.1, ())) && ((k28 (a0, ())) && ((k27 (a0, ())) && (tt 1 (k23 (a0, ())))))) then some true else none)
                        else
                          (bif ((k31 (a0.2.2.2.2.1, ())) && ((k28 (a0, ())) && ((k27 (a0, ())) && (tt 1 (k23 (a0, ())))))) then some (decide (a0.2.2.1 < 10)) else none)))
                    else
                      (bif ((k31 (a0.2.2.2.2.1, ())) && ((k28 (a0, ())) && ((k27 (a0, ())) && (tt 1 (k23 (a0, ())))))) then some false else none))
                  else
                    (bif (decide (a0.1 = 219)) then
                      (bif (v31 (a0.2.2.2.2.1, ())) then
                        (bif (decide (a0.2.2.2.2.1 = 241)) then
                          (bif ((k31 (a0.2.2.2.2.1, ())) && ((k28 (a0, ())) && ((k27 (a0, ())) && (tt 1 (k23 (a0, ())))))) then some true else none)
                        else
                          (bif (decide ((iand .i64 a0.2.2.2.2.1 1) = 0)) then
                            (bif ((k31 (a0.2.2.2.2.1, ())) && ((k28 (a0, ())) && ((k27 (a0, ())) && (tt 1 (k23 (a0, ())))))) then some true else none)
                          else
                            (bif ((k31 (a0.2.2.2.2.1, ())) && ((k28 (a0, ())) && ((k27 (a0, ())) && (tt 1 (k23 (a0, ())))))) then some (decide (a0.2.2.1 < 10)) else none)))
                      else
                        (bif ((k31 (a0.2.2.2.2.1, ())) && ((k28 (a0, ())) && ((k27 (a0, ())) && (tt 1 (k23 (a0, ())))))) then some false else none))
                    else
                      (bif ((k28 (a0, ())) && ((k27 (a0, ())) && (tt 1 (k23 (a0, ()))))) then some false else none))))
              else
                (bif (decide ((v28 (a0, ())) = 5)) then
                  (bif (decide (a0.1 = 5)) then
                    (bif (decide (a0.2.1 = 0)) then
                      (bif (decide (a0.2.2.1 = 0)) then
                        (bif ((k28 (a0, ())) && ((k27 (a0, ())) && (tt 1 (k23 (a0, ()))))) then some (decide (a0.2.2.2.2.1 = 0)) else none)
                      else
                        (bif ((k28 (a0, ())) && ((k27 (a0, ())) && (tt 1 (k23 (a0, ()))))) then some false else none))
                    else
                      (bif ((k28 (a0, ())) && ((k27 (a0, ())) && (tt 1 (k23 (a0, ()))))) then some false else none))
                  else
                    (bif (decide (a0.1 = 133)) then
                      (bif (decide (a0.2.1 = 0)) then
                        (bif (decide (a0.2.2.1 = 0)) then
                          (bif ((k28 (a0, ())) && ((k27 (a0, ())) && (tt 1 (k23 (a0, ()))))) then some (decide (a0.2.2.2.1 = 0)) else none)
                        else
                          (bif ((k28 (a0, ())) && ((k27 (a0, ())) && (tt 1 (k23 (a0, ()))))) then some false else none))
                      else
                        (bif ((k28 (a0, ())) && ((k27 (a0, ())) && (tt 1 (k23 (a0, ()))))) then some false else none))
                    else
                      (bif (decide (a0.1 = 149)) then
                        (bif ((k28 (a0, ())) && ((k27 (a0, ())) && (tt 1 (k23 (a0, ()))))) then some ((decide (a0.1 = 149)) && ((decide (a0.2.1 = 0)) && ((decide (a0.2.2.1 = 0)) && ((decide (a0.2.2.2.1 = 0)) && (tt 1 (decide (a0.2.2.2.2.1 = 0))))))) else none)
                      else
                        (bif (decide ((ishr .i64 a0.1 4) > 0)) then
                          (bif (decide ((ishr .i64 a0.1 4) < 14)) then
                            (bif (!(decide ((ishr .i64 a0.1 4) = 8))) then
                              (bif (!(decide ((ishr .i64 a0.1 4) = 9))) then
                                (bif ((k32 (a0, ())) && ((k28 (a0, ())) && ((k27 (a0, ())) && (tt 1 (k23 (a0, ())))))) then some (v32 (a0, ())) else none)
                              else
                                (bif ((k28 (a0, ())) && ((k27 (a0, ())) && (tt 1 (k23 (a0, ()))))) then some false else none))
                            else
                              (bif ((k28 (a0, ())) && ((k27 (a0, ())) && (tt 1 (k23 (a0, ()))))) then some false else none))
                          else
                            (bif ((k28 (a0, ())) && ((k27 (a0, ())) && (tt 1 (k23 (a0, ()))))) then some false else none))
                        else
                          (bif ((k28 (a0, ())) && ((k27 (a0, ())) && (tt 1 (k23 (a0, ()))))) then some false else none)))))
                else
                  (bif (decide ((v28 (a0, ())) = 6)) then
                    (bif (decide (a0.1 = 5)) then
                      (bif (decide (a0.2.1 = 0)) then
                        (bif (decide (a0.2.2.1 = 0)) then
                          (bif ((k28 (a0, ())) && ((k27 (a0, ())) && (tt 1 (k23 (a0, ()))))) then some (decide (a0.2.2.2.2.1 = 0)) else none)
                        else
                          (bif ((k28 (a0, ())) && ((k27 (a0, ())) && (tt 1 (k23 (a0, ()))))) then some false else none))
                      else
                        (bif ((k28 (a0, ())) && ((k27 (a0, ())) && (tt 1 (k23 (a0, ()))))) then some false else none))
                    else
                      (bif (decide (a0.1 = 133)) then
                        (bif (decide (a0.2.1 = 0)) then
                          (bif (decide (a0.2.2.1 = 0)) then
                            (bif ((k28 (a0, ())) && ((k27 (a0, ())) && (tt 1 (k23 (a0, ()))))) then some (decide (a0.2.2.2.1 = 0)) else none)
                          else
                            (bif ((k28 (a0, ())) && ((k27 (a0, ())) && (tt 1 (k23 (a0, ()))))) then some false else none))
                        else
                          (bif ((k28 (a0, ())) && ((k27 (a0, ())) && (tt 1 (k23 (a0, ()))))) then some false else none))
                      else
                        (bif (decide (a0.1 = 149)) then
                          (bif ((k28 (a0, ())) && ((k27 (a0, ())) && (tt 1 (k23 (a0, ()))))) then some ((decide (a0.1 = 149)) && ((decide (a0.2.1 = 0)) && ((decide (a0.2.2.1 = 0)) && ((decide (a0.2.2.2.1 = 0)) && (tt 1 (decide (a0.2.2.2.2.1 = 0))))))) else none)
                        else
                          (bif (decide ((ishr .i64 a0.1 4) > 0)) then
                            (bif (decide ((ishr .i64 a0.1 4) < 14)) then
                              (bif (!(decide ((ishr .i64 a0.1 4) = 8))) then
                                (bif (!(decide ((ishr .i64 a0.1 4) = 9))) then
                                  (bif ((k32 (a0, ())) && ((k28 (a0, ())) && ((k27 (a0, ())) && (tt 1 (k23 (a0, ())))))) then some (v32 (a0, ())) else none)
                                else
                                  (bif ((k28 (a0, ())) && ((k27 (a0, ())) && (tt 1 (k23 (a0, ()))))) then some false else none))
                              else
                                (bif ((k28 (a0, ())) && ((k27 (a0, ())) && (tt 1 (k23 (a0, ()))))) then some false else none))
                            else
                              (bif ((k28 (a0, ())) && ((k27 (a0, ())) && (tt 1 (k23 (a0, ()))))) then some false else none))
                          else
                            (bif ((k28 (a0, ())) && ((k27 (a0, ())) && (tt 1 (k23 (a0, ()))))) then some false else none)))))
                  else
                    (bif ((k28 (a0, ())) && ((k27 (a0, ())) && (tt 1 (k23 (a0, ()))))) then some false else none))))))))))
theorem t17 (v23 : ((Int × (Int × KD0)) × Unit) → Bool) (k23 : ((Int × (Int × KD0)) × Unit) → Bool) (v27 : ((Int × (Int × KD0)) × Unit) → Bool) (k27 : ((Int × (Int × KD0)) × Unit) → Bool) (v28 : ((Int × (Int × KD0)) × Unit) → Int) (k28 : ((Int × (Int × KD0)) × Unit) → Bool) (v29 : ((Int × (Int × KD0)) × Unit) → Bool) (k29 : ((Int × (Int × KD0)) × Unit) → Bool) (v30 : ((Int × (Int × KD0)) × Unit) → Int) (k30 : ((Int × (Int × KD0)) × Unit) → Bool) (v31 : (Int × Unit) → Bool) (k31 : (Int × Unit) → Bool) (v32 : ((Int × (Int × KD0)) × Unit) → Bool) (k32 : ((Int × (Int × KD0)) × Unit) → Bool) (a0 : (Int × (Int × KD0))) : fnT (CxL Try.Θ (kOf [(23, sm [KT4] .bool v23 k23), (27, sm [KT4] .bool v27 k27), (28, sm [KT4] (.int .i64) v28 k28), (29, sm [KT4] .bool v29 k29), (30, sm [KT4] (.int .i64) v30 k30), (31, sm [(.int .i64)] .bool v31 k31), (32, sm [KT4] .bool v32 k32)]) (lOf [])) Try.f17 .bool [⟨KT4, a0⟩] = S17 v23 k23 v27 k27 v28 k28 v29 k29 v30 k30 v31 k31 v32 k32 a0 := by kernel_rfl
noncomputable def S22 (v23 : ((Int × (Int × KD0)) × Unit) → Bool) (k23 : ((Int × (Int × KD0)) × Unit) → Bool) (a0 : (Int × (Int × KD0))) : Option Int :=
  (bif (v23 (a0, ())) then (bif (tt 1 (k23 (a0, ()))) then some 2 else none) else (bif (tt 1 (k23 (a0, ()))) then some 1 else none))
theorem t22 (v23 : ((Int × (Int × KD0)) × Unit) → Bool) (k23 : ((Int × (Int × KD0)) × Unit) → Bool) (a0 : (Int × (Int × KD0))) : fnT (CxL Try.Θ (kOf [(23, sm [KT4] .bool v23 k23)]) (lOf [])) Try.f22 (.int .i64) [⟨KT4, a0⟩] = S22 v23 k23 a0 := by kernel_rfl
def hd18_0 : List It := [.sl 0 (.vsl KT4), .ow 4 1 .bool, .sl 5 (.int .i64)]
def ys18_0 : Ways := [((.exit 0), [.ow 4 1 .bool]), (.ret, [.sl 2 (.vsl .bool), .sl 3 (.int .i64)])]
noncomputable def R18_0 (v17 : ((Int × (Int × KD0)) × Unit) → Bool) (k17 : ((Int × (Int × KD0)) × Unit) → Bool) (v22 : ((Int × (Int × KD0)) × Unit) → Int) (k22 : ((Int × (Int × KD0)) × Unit) → Bool) (v23 : ((Int × (Int × KD0)) × Unit) → Bool) (k23 : ((Int × (Int × KD0)) × Unit) → Bool) (lv0 : (KD1 × (List Bool) × Int × Unit) → (((List Bool) × Unit) ⊕ ((List Bool) × Int × Unit))) (lk0 : (KD1 × (List Bool) × Int × Unit) → Bool) (x0 : KD1) (x1 : (List Bool)) (x2 : Int) : Option ((KD1 × (List Bool) × Int × Unit) ⊕ (((List Bool) × Unit) ⊕ ((List Bool) × Int × Unit))) :=
  (bif (decide (x2 < ((x0.length : Nat) : Int))) then
    (bif (v17 ((x0.getD (Int.toNat x2) (0, (0, (0, (0, (0, ())))))), ())) then
      (bif (v23 ((x0.getD (Int.toNat x2) (0, (0, (0, (0, (0, ())))))), ())) then
        (bif (decide ((IntKind.wrap .i64 (x2 + 1)) < ((x0.length : Nat) : Int))) then
          (bif ((decide ((x0.getD (Int.toNat (IntKind.wrap .i64 (x2 + 1))) (0, (0, (0, (0, (0, ())))))).1 = 0)) && ((decide ((x0.getD (Int.toNat (IntKind.wrap .i64 (x2 + 1))) (0, (0, (0, (0, (0, ())))))).2.1 = 0)) && ((decide ((x0.getD (Int.toNat (IntKind.wrap .i64 (x2 + 1))) (0, (0, (0, (0, (0, ())))))).2.2.1 = 0)) && (tt 1 (decide ((x0.getD (Int.toNat (IntKind.wrap .i64 (x2 + 1))) (0, (0, (0, (0, (0, ())))))).2.2.2.1 = 0)))))) then
            (bif (decide ((IntKind.wrap .i64 (IntKind.wrap .i32 (x0.getD (Int.toNat (IntKind.wrap .i64 (x2 + 1))) (0, (0, (0, (0, (0, ())))))).2.2.2.2.1)) = (x0.getD (Int.toNat (IntKind.wrap .i64 (x2 + 1))) (0, (0, (0, (0, (0, ())))))).2.2.2.2.1)) then
              (bif (decide ((x0.getD (Int.toNat x2) (0, (0, (0, (0, (0, ())))))).2.2.1 = 0)) then
                (bif ((tt 1 (decide (((0 + x1.length) : Nat) ≤ x1.length))) && (tt 1 ((k22 ((x0.getD (Int.toNat x2) (0, (0, (0, (0, (0, ())))))), ())) && (((decide (0 ≤ x2)) && (decide (x2 < ((x0.length : Nat) : Int)))) && ((tt 1 (decide (((0 + (Int.toNat x2)) : Nat) < x1.length))) && (((decide (0 ≤ x2)) && (decide (x2 < ((x1.length : Nat) : Int)))) && (((decide (0 ≤ x2)) && (decide (x2 < ((x0.length : Nat) : Int)))) && (((decide (0 ≤ (IntKind.wrap .i64 (x2 + 1)))) && (decide ((IntKind.wrap .i64 (x2 + 1)) < ((x0.length : Nat) : Int)))) && ((k23 ((x0.getD (Int.toNat x2) (0, (0, (0, (0, (0, ())))))), ())) && (((decide (0 ≤ x2)) && (decide (x2 < ((x0.length : Nat) : Int)))) && ((k17 ((x0.getD (Int.toNat x2) (0, (0, (0, (0, (0, ())))))), ())) && (tt 1 ((decide (0 ≤ x2)) && (decide (x2 < ((x0.length : Nat) : Int)))))))))))))))) then some (.inl (x0, (sec false (lset false x1 (0 + (Int.toNat x2)) true) 0 x1.length), (IntKind.wrap .i64 (x2 + (v22 ((x0.getD (Int.toNat x2) (0, (0, (0, (0, (0, ())))))), ())))), ())) else none)
              else
                (bif (!(decide ((x0.getD (Int.toNat (IntKind.wrap .i64 (x2 + 1))) (0, (0, (0, (0, (0, ())))))).2.2.2.2.1 = 0))) then
                  (bif (tt 1 (((decide (0 ≤ x2)) && (decide (x2 < ((x0.length : Nat) : Int)))) && (((decide (0 ≤ (IntKind.wrap .i64 (x2 + 1)))) && (decide ((IntKind.wrap .i64 (x2 + 1)) < ((x0.length : Nat) : Int)))) && ((k23 ((x0.getD (Int.toNat x2) (0, (0, (0, (0, (0, ())))))), ())) && (((decide (0 ≤ x2)) && (decide (x2 < ((x0.length : Nat) : Int)))) && ((k17 ((x0.getD (Int.toNat x2) (0, (0, (0, (0, (0, ())))))), ())) && (tt 1 ((decide (0 ≤ x2)) && (decide (x2 < ((x0.length : Nat) : Int))))))))))) then some (.inr (.inr ([], x2, ()))) else none)
                else
                  (bif ((tt 1 (decide (((0 + x1.length) : Nat) ≤ x1.length))) && (tt 1 ((k22 ((x0.getD (Int.toNat x2) (0, (0, (0, (0, (0, ())))))), ())) && (((decide (0 ≤ x2)) && (decide (x2 < ((x0.length : Nat) : Int)))) && ((tt 1 (decide (((0 + (Int.toNat x2)) : Nat) < x1.length))) && (((decide (0 ≤ x2)) && (decide (x2 < ((x1.length : Nat) : Int)))) && (((decide (0 ≤ x2)) && (decide (x2 < ((x0.length : Nat) : Int)))) && (((decide (0 ≤ (IntKind.wrap .i64 (x2 + 1)))) && (decide ((IntKind.wrap .i64 (x2 + 1)) < ((x0.length : Nat) : Int)))) && ((k23 ((x0.getD (Int.toNat x2) (0, (0, (0, (0, (0, ())))))), ())) && (((decide (0 ≤ x2)) && (decide (x2 < ((x0.length : Nat) : Int)))) && ((k17 ((x0.getD (Int.toNat x2) (0, (0, (0, (0, (0, ())))))), ())) && (tt 1 ((decide (0 ≤ x2)) && (decide (x2 < ((x0.length : Nat) : Int)))))))))))))))) then some (.inl (x0, (sec false (lset false x1 (0 + (Int.toNat x2)) true) 0 x1.length), (IntKind.wrap .i64 (x2 + (v22 ((x0.getD (Int.toNat x2) (0, (0, (0, (0, (0, ())))))), ())))), ())) else none)))
            else
              (bif (tt 1 (((decide (0 ≤ (IntKind.wrap .i64 (x2 + 1)))) && (decide ((IntKind.wrap .i64 (x2 + 1)) < ((x0.length : Nat) : Int)))) && ((k23 ((x0.getD (Int.toNat x2) (0, (0, (0, (0, (0, ())))))), ())) && (((decide (0 ≤ x2)) && (decide (x2 < ((x0.length : Nat) : Int)))) && ((k17 ((x0.getD (Int.toNat x2) (0, (0, (0, (0, (0, ())))))), ())) && (tt 1 ((decide (0 ≤ x2)) && (decide (x2 < ((x0.length : Nat) : Int)))))))))) then some (.inr (.inr ([], x2, ()))) else none))
          else
            (bif (tt 1 (((decide (0 ≤ (IntKind.wrap .i64 (x2 + 1)))) && (decide ((IntKind.wrap .i64 (x2 + 1)) < ((x0.length : Nat) : Int)))) && ((k23 ((x0.getD (Int.toNat x2) (0, (0, (0, (0, (0, ())))))), ())) && (((decide (0 ≤ x2)) && (decide (x2 < ((x0.length : Nat) : Int)))) && ((k17 ((x0.getD (Int.toNat x2) (0, (0, (0, (0, (0, ())))))), ())) && (tt 1 ((decide (0 ≤ x2)) && (decide (x2 < ((x0.length : Nat) : Int)))))))))) then some (.inr (.inr ([], x2, ()))) else none))
        else
          (bif (!(decide ((IntKind.wrap .i64 (x2 + 1)) < ((x0.length : Nat) : Int)))) then
            (bif (tt 1 ((k23 ((x0.getD (Int.toNat x2) (0, (0, (0, (0, (0, ())))))), ())) && (((decide (0 ≤ x2)) && (decide (x2 < ((x0.length : Nat) : Int)))) && ((k17 ((x0.getD (Int.toNat x2) (0, (0, (0, (0, (0, ())))))), ())) && (tt 1 ((decide (0 ≤ x2)) && (decide (x2 < ((x0.length : Nat) : Int))))))))) then some (.inr (.inr ([], x2, ()))) else none)
          else
            (bif ((tt 1 (decide (((0 + x1.length) : Nat) ≤ x1.length))) && (tt 1 ((k22 ((x0.getD (Int.toNat x2) (0, (0, (0, (0, (0, ())))))), ())) && (((decide (0 ≤ x2)) && (decide (x2 < ((x0.length : Nat) : Int)))) && ((tt 1 (decide (((0 + (Int.toNat x2)) : Nat) < x1.length))) && (((decide (0 ≤ x2)) && (decide (x2 < ((x1.length : Nat) : Int)))) && ((k23 ((x0.getD (Int.toNat x2) (0, (0, (0, (0, (0, ())))))), ())) && (((decide (0 ≤ x2)) && (decide (x2 < ((x0.length : Nat) : Int)))) && ((k17 ((x0.getD (Int.toNat x2) (0, (0, (0, (0, (0, ())))))), ())) && (tt 1 ((decide (0 ≤ x2)) && (decide (x2 < ((x0.length : Nat) : Int)))))))))))))) then some (.inl (x0, (sec false (lset false x1 (0 + (Int.toNat x2)) true) 0 x1.length), (IntKind.wrap .i64 (x2 + (v22 ((x0.getD (Int.toNat x2) (0, (0, (0, (0, (0, ())))))), ())))), ())) else none)))
      else
        (bif (!(v17 ((x0.getD (Int.toNat x2) (0, (0, (0, (0, (0, ())))))), ()))) then
          (bif (tt 1 ((k23 ((x0.getD (Int.toNat x2) (0, (0, (0, (0, (0, ())))))), ())) && (((decide (0 ≤ x2)) && (decide (x2 < ((x0.length : Nat) : Int)))) && ((k17 ((x0.getD (Int.toNat x2) (0, (0, (0, (0, (0, ())))))), ())) && (tt 1 ((decide (0 ≤ x2)) && (decide (x2 < ((x0.length : Nat) : Int))))))))) then some (.inr (.inr ([], x2, ()))) else none)
        else
          (bif ((tt 1 (decide (((0 + x1.length) : Nat) ≤ x1.length))) && (tt 1 ((k22 ((x0.getD (Int.toNat x2) (0, (0, (0, (0, (0, ())))))), ())) && (((decide (0 ≤ x2)) && (decide (x2 < ((x0.length : Nat) : Int)))) && ((tt 1 (decide (((0 + (Int.toNat x2)) : Nat) < x1.length))) && (((decide (0 ≤ x2)) && (decide (x2 < ((x1.length : Nat) : Int)))) && ((k23 ((x0.getD (Int.toNat x2) (0, (0, (0, (0, (0, ())))))), ())) && (((decide (0 ≤ x2)) && (decide (x2 < ((x0.length : Nat) : Int)))) && ((k17 ((x0.getD (Int.toNat x2) (0, (0, (0, (0, (0, ())))))), ())) && (tt 1 ((decide (0 ≤ x2)) && (decide (x2 < ((x0.length : Nat) : Int)))))))))))))) then some (.inl (x0, (sec false (lset false x1 (0 + (Int.toNat x2)) true) 0 x1.length), (IntKind.wrap .i64 (x2 + (v22 ((x0.getD (Int.toNat x2) (0, (0, (0, (0, (0, ())))))), ())))), ())) else none)))
    else
      (bif (!(v17 ((x0.getD (Int.toNat x2) (0, (0, (0, (0, (0, ())))))), ()))) then
        (bif (tt 1 ((k17 ((x0.getD (Int.toNat x2) (0, (0, (0, (0, (0, ())))))), ())) && (tt 1 ((decide (0 ≤ x2)) && (decide (x2 < ((x0.length : Nat) : Int))))))) then some (.inr (.inr ([], x2, ()))) else none)
      else
        (bif ((tt 1 (decide (((0 + x1.length) : Nat) ≤ x1.length))) && (tt 1 ((k22 ((x0.getD (Int.toNat x2) (0, (0, (0, (0, (0, ())))))), ())) && (((decide (0 ≤ x2)) && (decide (x2 < ((x0.length : Nat) : Int)))) && ((tt 1 (decide (((0 + (Int.toNat x2)) : Nat) < x1.length))) && (((decide (0 ≤ x2)) && (decide (x2 < ((x1.length : Nat) : Int)))) && ((k17 ((x0.getD (Int.toNat x2) (0, (0, (0, (0, (0, ())))))), ())) && (tt 1 ((decide (0 ≤ x2)) && (decide (x2 < ((x0.length : Nat) : Int)))))))))))) then some (.inl (x0, (sec false (lset false x1 (0 + (Int.toNat x2)) true) 0 x1.length), (IntKind.wrap .i64 (x2 + (v22 ((x0.getD (Int.toNat x2) (0, (0, (0, (0, (0, ())))))), ())))), ())) else none)))
  else
    (bif (tt 2 (decide (((0 + x1.length) : Nat) ≤ x1.length))) then some (.inr (.inl ((sec false x1 0 x1.length), ()))) else none))
theorem r18_0 (v17 : ((Int × (Int × KD0)) × Unit) → Bool) (k17 : ((Int × (Int × KD0)) × Unit) → Bool) (v22 : ((Int × (Int × KD0)) × Unit) → Int) (k22 : ((Int × (Int × KD0)) × Unit) → Bool) (v23 : ((Int × (Int × KD0)) × Unit) → Bool) (k23 : ((Int × (Int × KD0)) × Unit) → Bool) (lv0 : (KD1 × (List Bool) × Int × Unit) → (((List Bool) × Unit) ⊕ ((List Bool) × Int × Unit))) (lk0 : (KD1 × (List Bool) × Int × Unit) → Bool) (x0 : KD1) (x1 : (List Bool)) (x2 : Int) : codeT (CxL Try.Θ (kOf [(17, sm [KT4] .bool v17 k17), (22, sm [KT4] (.int .i64) v22 k22), (23, sm [KT4] .bool v23 k23)]) (lOf [(0, orc 79 25 0 hd18_0 ys18_0 lv0 lk0)])) (loopB 0 (bodyF Try.f18)) (mkS 79 25 hd18_0 (x0, x1, x2, ())) (leafR 79 hd18_0 ys18_0) = R18_0 v17 k17 v22 k22 v23 k23 lv0 lk0 x0 x1 x2 := by kernel_rfl
noncomputable def S18 (v17 : ((Int × (Int × KD0)) × Unit) → Bool) (k17 : ((Int × (Int × KD0)) × Unit) → Bool) (v22 : ((Int × (Int × KD0)) × Unit) → Int) (k22 : ((Int × (Int × KD0)) × Unit) → Bool) (v23 : ((Int × (Int × KD0)) × Unit) → Bool) (k23 : ((Int × (Int × KD0)) × Unit) → Bool) (lv0 : (KD1 × (List Bool) × Int × Unit) → (((List Bool) × Unit) ⊕ ((List Bool) × Int × Unit))) (lk0 : (KD1 × (List Bool) × Int × Unit) → Bool) (a0 : KD1) : Option KD5 :=
  (bif (isL (lv0 (a0, (sec false ([] : List Bool) 0 (Int.toNat ((a0.length : Nat) : Int))), 0, ()))) then
    (bif (((tt 1 (decide (((0 + (getL (([], ()) : ((List Bool) × Unit)) (lv0 (a0, (sec false ([] : List Bool) 0 (Int.toNat ((a0.length : Nat) : Int))), 0, ()))).1.length) : Nat) ≤ (getL (([], ()) : ((List Bool) × Unit)) (lv0 (a0, (sec false ([] : List Bool) 0 (Int.toNat ((a0.length : Nat) : Int))), 0, ()))).1.length))) && ((decide (((0 + (getL (([], ()) : ((List Bool) × Unit)) (lv0 (a0, (sec false ([] : List Bool) 0 (Int.toNat ((a0.length : Nat) : Int))), 0, ()))).1.length) : Nat) ≤ (getL (([], ()) : ((List Bool) × Unit)) (lv0 (a0, (sec false ([] : List Bool) 0 (Int.toNat ((a0.length : Nat) : Int))), 0, ()))).1.length)) && (tt 3 (decide (((0 + (getL (([], ()) : ((List Bool) × Unit)) (lv0 (a0, (sec false ([] : List Bool) 0 (Int.toNat ((a0.length : Nat) : Int))), 0, ()))).1.length) : Nat) ≤ (getL (([], ()) : ((List Bool) × Unit)) (lv0 (a0, (sec false ([] : List Bool) 0 (Int.toNat ((a0.length : Nat) : Int))), 0, ()))).1.length))))) && ((lk0 (a0, (sec false ([] : List Bool) 0 (Int.toNat ((a0.length : Nat) : Int))), 0, ())) && (((decide (((0 + (Int.toNat ((a0.length : Nat) : Int))) : Nat) ≤ (Int.toNat ((a0.length : Nat) : Int)))) && (tt 1 (decide (((0 + (Int.toNat ((a0.length : Nat) : Int))) : Nat) ≤ (Int.toNat ((a0.length : Nat) : Int)))))) && (tt 2 ((decide (0 ≤ ((a0.length : Nat) : Int))) && ((decide (((a0.length : Nat) : Int) ≤ ((a0.length : Nat) : Int))) && ((decide (1 * ((a0.length : Nat) : Int) ≤ 281474976710656)) && (decide (((a0.length : Nat) : Int) ≤ 281474976710656))))))))) then some ((sec false (getL (([], ()) : ((List Bool) × Unit)) (lv0 (a0, (sec false ([] : List Bool) 0 (Int.toNat ((a0.length : Nat) : Int))), 0, ()))).1 0 (getL (([], ()) : ((List Bool) × Unit)) (lv0 (a0, (sec false ([] : List Bool) 0 (Int.toNat ((a0.length : Nat) : Int))), 0, ()))).1.length), (-1), ()) else none)
  else
    (bif ((lk0 (a0, (sec false ([] : List Bool) 0 (Int.toNat ((a0.length : Nat) : Int))), 0, ())) && (((decide (((0 + (Int.toNat ((a0.length : Nat) : Int))) : Nat) ≤ (Int.toNat ((a0.length : Nat) : Int)))) && (tt 1 (decide (((0 + (Int.toNat ((a0.length : Nat) : Int))) : Nat) ≤ (Int.toNat ((a0.length : Nat) : Int)))))) && (tt 2 ((decide (0 ≤ ((a0.length : Nat) : Int))) && ((decide (((a0.length : Nat) : Int) ≤ ((a0.length : Nat) : Int))) && ((decide (1 * ((a0.length : Nat) : Int) ≤ 281474976710656)) && (decide (((a0.length : Nat) : Int) ≤ 281474976710656)))))))) then some ((getR (([], 0, ()) : ((List Bool) × Int × Unit)) (lv0 (a0, (sec false ([] : List Bool) 0 (Int.toNat ((a0.length : Nat) : Int))), 0, ()))).1, (getR (([], 0, ()) : ((List Bool) × Int × Unit)) (lv0 (a0, (sec false ([] : List Bool) 0 (Int.toNat ((a0.length : Nat) : Int))), 0, ()))).2.1, ()) else none))
theorem t18 (v17 : ((Int × (Int × KD0)) × Unit) → Bool) (k17 : ((Int × (Int × KD0)) × Unit) → Bool) (v22 : ((Int × (Int × KD0)) × Unit) → Int) (k22 : ((Int × (Int × KD0)) × Unit) → Bool) (v23 : ((Int × (Int × KD0)) × Unit) → Bool) (k23 : ((Int × (Int × KD0)) × Unit) → Bool) (lv0 : (KD1 × (List Bool) × Int × Unit) → (((List Bool) × Unit) ⊕ ((List Bool) × Int × Unit))) (lk0 : (KD1 × (List Bool) × Int × Unit) → Bool) (a0 : KD1) : fnT (CxL Try.Θ (kOf [(17, sm [KT4] .bool v17 k17), (22, sm [KT4] (.int .i64) v22 k22), (23, sm [KT4] .bool v23 k23)]) (lOf [(0, orc 79 25 0 hd18_0 ys18_0 lv0 lk0)])) Try.f18 (.tup (.vsl .bool) KT6) [⟨(.vsl KT4), a0⟩] = S18 v17 k17 v22 k22 v23 k23 lv0 lk0 a0 := by kernel_rfl
noncomputable def S19 (v28 : ((Int × (Int × KD0)) × Unit) → Int) (k28 : ((Int × (Int × KD0)) × Unit) → Bool) (a0 : (Int × (Int × KD0))) : Option Bool :=
  (bif (decide ((v28 (a0, ())) = 5)) then
    (bif (!(decide (a0.1 = 133))) then
      (bif (tt 1 (k28 (a0, ()))) then some (!(decide (a0.1 = 149))) else none)
    else
      (bif (tt 1 (k28 (a0, ()))) then some false else none))
  else
    (bif (decide ((v28 (a0, ())) = 6)) then
      (bif (!(decide (a0.1 = 133))) then
        (bif (tt 1 (k28 (a0, ()))) then some (!(decide (a0.1 = 149))) else none)
      else
        (bif (tt 1 (k28 (a0, ()))) then some false else none))
    else
      (bif (tt 1 (k28 (a0, ()))) then some false else none)))
theorem t19 (v28 : ((Int × (Int × KD0)) × Unit) → Int) (k28 : ((Int × (Int × KD0)) × Unit) → Bool) (a0 : (Int × (Int × KD0))) : fnT (CxL Try.Θ (kOf [(28, sm [KT4] (.int .i64) v28 k28)]) (lOf [])) Try.f19 .bool [⟨KT4, a0⟩] = S19 v28 k28 a0 := by kernel_rfl
def hd7_0 : List It := [.sl 0 (.vsl KT4), .sl 4 (.vsl .bool), .sl 6 (.int .i64), .sl 27 (.vsl KT4), .sl 28 (.int .i64), .sl 29 (.int .i64)]
def ys7_0 : Ways := [((.exit 0), [.sl 0 (.vsl KT4), .sl 6 (.int .i64)]), (.ret, [.sl 2 (.int .i64), .sl 3 (.int .i64)])]
noncomputable def R7_0 (v18 : (KD1 × Unit) → KD5) (k18 : (KD1 × Unit) → Bool) (v19 : ((Int × (Int × KD0)) × Unit) → Bool) (k19 : ((Int × (Int × KD0)) × Unit) → Bool) (lv0 : (KD1 × (List Bool) × Int × KD1 × Int × Int × Unit) → ((KD1 × Int × Unit) ⊕ (Int × Int × Unit))) (lk0 : (KD1 × (List Bool) × Int × KD1 × Int × Int × Unit) → Bool) (x0 : KD1) (x1 : (List Bool)) (x2 : Int) (x3 : KD1) (x4 : Int) (x5 : Int) : Option ((KD1 × (List Bool) × Int × KD1 × Int × Int × Unit) ⊕ ((KD1 × Int × Unit) ⊕ (Int × Int × Unit))) :=
  (bif (decide (x5 < x4)) then
    (bif (!(x1.getD (Int.toNat x5) false)) then
      (bif (tt 1 (((decide (0 ≤ x5)) && (decide (x5 < ((x1.length : Nat) : Int)))) && (tt 1 ((decide (0 ≤ x5)) && (decide (x5 < ((x3.length : Nat) : Int))))))) then some (.inl (x0, x1, x2, x3, x4, (IntKind.wrap .i64 (x5 + 1)), ())) else none)
    else
      (bif (v19 ((x3.getD (Int.toNat x5) (0, (0, (0, (0, (0, ())))))), ())) then
        (bif (decide ((IntKind.wrap .i64 ((IntKind.wrap .i64 (x5 + 1)) + (x3.getD (Int.toNat x5) (0, (0, (0, (0, (0, ())))))).2.2.2.1)) < 0)) then
          (bif (tt 1 ((k19 ((x3.getD (Int.toNat x5) (0, (0, (0, (0, (0, ())))))), ())) && (((decide (0 ≤ x5)) && (decide (x5 < ((x1.length : Nat) : Int)))) && (tt 1 ((decide (0 ≤ x5)) && (decide (x5 < ((x3.length : Nat) : Int)))))))) then some (.inr (.inr (x5, 32, ()))) else none)
        else
          (bif (decide ((IntKind.wrap .i64 ((IntKind.wrap .i64 (x5 + 1)) + (x3.getD (Int.toNat x5) (0, (0, (0, (0, (0, ())))))).2.2.2.1)) ≥ ((x0.length : Nat) : Int))) then
            (bif (tt 1 ((k19 ((x3.getD (Int.toNat x5) (0, (0, (0, (0, (0, ())))))), ())) && (((decide (0 ≤ x5)) && (decide (x5 < ((x1.length : Nat) : Int)))) && (tt 1 ((decide (0 ≤ x5)) && (decide (x5 < ((x3.length : Nat) : Int)))))))) then some (.inr (.inr (x5, 32, ()))) else none)
          else
            (bif (!(x1.getD (Int.toNat (IntKind.wrap .i64 ((IntKind.wrap .i64 (x5 + 1)) + (x3.getD (Int.toNat x5) (0, (0, (0, (0, (0, ())))))).2.2.2.1))) false)) then
              (bif (tt 1 (((decide (0 ≤ (IntKind.wrap .i64 ((IntKind.wrap .i64 (x5 + 1)) + (x3.getD (Int.toNat x5) (0, (0, (0, (0, (0, ())))))).2.2.2.1)))) && (decide ((IntKind.wrap .i64 ((IntKind.wrap .i64 (x5 + 1)) + (x3.getD (Int.toNat x5) (0, (0, (0, (0, (0, ())))))).2.2.2.1)) < ((x1.length : Nat) : Int)))) && ((k19 ((x3.getD (Int.toNat x5) (0, (0, (0, (0, (0, ())))))), ())) && (((decide (0 ≤ x5)) && (decide (x5 < ((x1.length : Nat) : Int)))) && (tt 1 ((decide (0 ≤ x5)) && (decide (x5 < ((x3.length : Nat) : Int))))))))) then some (.inr (.inr (x5, 32, ()))) else none)
            else
              (bif (tt 1 (((decide (0 ≤ (IntKind.wrap .i64 ((IntKind.wrap .i64 (x5 + 1)) + (x3.getD (Int.toNat x5) (0, (0, (0, (0, (0, ())))))).2.2.2.1)))) && (decide ((IntKind.wrap .i64 ((IntKind.wrap .i64 (x5 + 1)) + (x3.getD (Int.toNat x5) (0, (0, (0, (0, (0, ())))))).2.2.2.1)) < ((x1.length : Nat) : Int)))) && ((k19 ((x3.getD (Int.toNat x5) (0, (0, (0, (0, (0, ())))))), ())) && (((decide (0 ≤ x5)) && (decide (x5 < ((x1.length : Nat) : Int)))) && (tt 1 ((decide (0 ≤ x5)) && (decide (x5 < ((x3.length : Nat) : Int))))))))) then some (.inl (x0, x1, x5, x3, x4, (IntKind.wrap .i64 (x5 + 1)), ())) else none))))
      else
        (bif (tt 1 ((k19 ((x3.getD (Int.toNat x5) (0, (0, (0, (0, (0, ())))))), ())) && (((decide (0 ≤ x5)) && (decide (x5 < ((x1.length : Nat) : Int)))) && (tt 1 ((decide (0 ≤ x5)) && (decide (x5 < ((x3.length : Nat) : Int)))))))) then some (.inl (x0, x1, x5, x3, x4, (IntKind.wrap .i64 (x5 + 1)), ())) else none)))
  else
    some (.inr (.inl (x0, x2, ()))))
theorem r7_0 (v18 : (KD1 × Unit) → KD5) (k18 : (KD1 × Unit) → Bool) (v19 : ((Int × (Int × KD0)) × Unit) → Bool) (k19 : ((Int × (Int × KD0)) × Unit) → Bool) (lv0 : (KD1 × (List Bool) × Int × KD1 × Int × Int × Unit) → ((KD1 × Int × Unit) ⊕ (Int × Int × Unit))) (lk0 : (KD1 × (List Bool) × Int × KD1 × Int × Int × Unit) → Bool) (x0 : KD1) (x1 : (List Bool)) (x2 : Int) (x3 : KD1) (x4 : Int) (x5 : Int) : codeT (CxL Try.Θ (kOf [(18, sm [(.vsl KT4)] (.tup (.vsl .bool) KT6) v18 k18), (19, sm [KT4] .bool v19 k19)]) (lOf [(0, orc 78 24 0 hd7_0 ys7_0 lv0 lk0)])) (loopB 0 (bodyF Try.f7)) (mkS 78 24 hd7_0 (x0, x1, x2, x3, x4, x5, ())) (leafR 78 hd7_0 ys7_0) = R7_0 v18 k18 v19 k19 lv0 lk0 x0 x1 x2 x3 x4 x5 := by kernel_rfl
noncomputable def S7 (v18 : (KD1 × Unit) → KD5) (k18 : (KD1 × Unit) → Bool) (v19 : ((Int × (Int × KD0)) × Unit) → Bool) (k19 : ((Int × (Int × KD0)) × Unit) → Bool) (lv0 : (KD1 × (List Bool) × Int × KD1 × Int × Int × Unit) → ((KD1 × Int × Unit) ⊕ (Int × Int × Unit))) (lk0 : (KD1 × (List Bool) × Int × KD1 × Int × Int × Unit) → Bool) (a0 : KD1) : Option (Int × (Int × Unit)) :=
  (bif (decide (((a0.length : Nat) : Int) = 0)) then
    some (0, 32, ())
  else
    (bif (decide (((a0.length : Nat) : Int) > 4096)) then
      some (0, 32, ())
    else
      (bif (decide ((v18 (a0, ())).2.1 ≥ 0)) then
        (bif (tt 1 (k18 (a0, ()))) then some ((v18 (a0, ())).2.1, 32, ()) else none)
      else
        (bif (isL (lv0 (a0, (v18 (a0, ())).1, 0, a0, ((a0.length : Nat) : Int), 0, ()))) then
          (bif (!(decide (((getL (([], 0, ()) : (KD1 × Int × Unit)) (lv0 (a0, (v18 (a0, ())).1, 0, a0, ((a0.length : Nat) : Int), 0, ()))).1.getD (Int.toNat (getL (([], 0, ()) : (KD1 × Int × Unit)) (lv0 (a0, (v18 (a0, ())).1, 0, a0, ((a0.length : Nat) : Int), 0, ()))).2.1) (0, (0, (0, (0, (0, ())))))).1 = 5))) then
            (bif (!(decide (((getL (([], 0, ()) : (KD1 × Int × Unit)) (lv0 (a0, (v18 (a0, ())).1, 0, a0, ((a0.length : Nat) : Int), 0, ()))).1.getD (Int.toNat (getL (([], 0, ()) : (KD1 × Int × Unit)) (lv0 (a0, (v18 (a0, ())).1, 0, a0, ((a0.length : Nat) : Int), 0, ()))).2.1) (0, (0, (0, (0, (0, ())))))).1 = 149))) then
              (bif (((decide (0 ≤ (getL (([], 0, ()) : (KD1 × Int × Unit)) (lv0 (a0, (v18 (a0, ())).1, 0, a0, ((a0.length : Nat) : Int), 0, ()))).2.1)) && (decide ((getL (([], 0, ()) : (KD1 × Int × Unit)) (lv0 (a0, (v18 (a0, ())).1, 0, a0, ((a0.length : Nat) : Int), 0, ()))).2.1 < (((getL (([], 0, ()) : (KD1 × Int × Unit)) (lv0 (a0, (v18 (a0, ())).1, 0, a0, ((a0.length : Nat) : Int), 0, ()))).1.length : Nat) : Int)))) && ((lk0 (a0, (v18 (a0, ())).1, 0, a0, ((a0.length : Nat) : Int), 0, ())) && (tt 2 (k18 (a0, ()))))) then some ((getL (([], 0, ()) : (KD1 × Int × Unit)) (lv0 (a0, (v18 (a0, ())).1, 0, a0, ((a0.length : Nat) : Int), 0, ()))).2.1, 32, ()) else none)
            else
              (bif (((decide (0 ≤ (getL (([], 0, ()) : (KD1 × Int × Unit)) (lv0 (a0, (v18 (a0, ())).1, 0, a0, ((a0.length : Nat) : Int), 0, ()))).2.1)) && (decide ((getL (([], 0, ()) : (KD1 × Int × Unit)) (lv0 (a0, (v18 (a0, ())).1, 0, a0, ((a0.length : Nat) : Int), 0, ()))).2.1 < (((getL (([], 0, ()) : (KD1 × Int × Unit)) (lv0 (a0, (v18 (a0, ())).1, 0, a0, ((a0.length : Nat) : Int), 0, ()))).1.length : Nat) : Int)))) && ((lk0 (a0, (v18 (a0, ())).1, 0, a0, ((a0.length : Nat) : Int), 0, ())) && (tt 2 (k18 (a0, ()))))) then some (0, 0, ()) else none))
          else
            (bif (((decide (0 ≤ (getL (([], 0, ()) : (KD1 × Int × Unit)) (lv0 (a0, (v18 (a0, ())).1, 0, a0, ((a0.length : Nat) : Int), 0, ()))).2.1)) && (decide ((getL (([], 0, ()) : (KD1 × Int × Unit)) (lv0 (a0, (v18 (a0, ())).1, 0, a0, ((a0.length : Nat) : Int), 0, ()))).2.1 < (((getL (([], 0, ()) : (KD1 × Int × Unit)) (lv0 (a0, (v18 (a0, ())).1, 0, a0, ((a0.length : Nat) : Int), 0, ()))).1.length : Nat) : Int)))) && ((lk0 (a0, (v18 (a0, ())).1, 0, a0, ((a0.length : Nat) : Int), 0, ())) && (tt 2 (k18 (a0, ()))))) then some (0, 0, ()) else none))
        else
          (bif ((lk0 (a0, (v18 (a0, ())).1, 0, a0, ((a0.length : Nat) : Int), 0, ())) && (tt 2 (k18 (a0, ())))) then some ((getR ((0, 0, ()) : (Int × Int × Unit)) (lv0 (a0, (v18 (a0, ())).1, 0, a0, ((a0.length : Nat) : Int), 0, ()))).1, (getR ((0, 0, ()) : (Int × Int × Unit)) (lv0 (a0, (v18 (a0, ())).1, 0, a0, ((a0.length : Nat) : Int), 0, ()))).2.1, ()) else none)))))
theorem t7 (v18 : (KD1 × Unit) → KD5) (k18 : (KD1 × Unit) → Bool) (v19 : ((Int × (Int × KD0)) × Unit) → Bool) (k19 : ((Int × (Int × KD0)) × Unit) → Bool) (lv0 : (KD1 × (List Bool) × Int × KD1 × Int × Int × Unit) → ((KD1 × Int × Unit) ⊕ (Int × Int × Unit))) (lk0 : (KD1 × (List Bool) × Int × KD1 × Int × Int × Unit) → Bool) (a0 : KD1) : fnT (CxL Try.Θ (kOf [(18, sm [(.vsl KT4)] (.tup (.vsl .bool) KT6) v18 k18), (19, sm [KT4] .bool v19 k19)]) (lOf [(0, orc 78 24 0 hd7_0 ys7_0 lv0 lk0)])) Try.f7 (.tup (.int .i64) KT6) [⟨(.vsl KT4), a0⟩] = S7 v18 k18 v19 k19 lv0 lk0 a0 := by kernel_rfl
noncomputable def S25 (v19 : ((Int × (Int × KD0)) × Unit) → Bool) (k19 : ((Int × (Int × KD0)) × Unit) → Bool) (v22 : ((Int × (Int × KD0)) × Unit) → Int) (k22 : ((Int × (Int × KD0)) × Unit) → Bool) (a0 : KD1) (a1 : Int) : Option (List Int) :=
  (bif (!(decide ((a0.getD (Int.toNat a1) (0, (0, (0, (0, (0, ())))))).1 = 149))) then
    (bif (!(decide ((a0.getD (Int.toNat a1) (0, (0, (0, (0, (0, ())))))).1 = 5))) then
      (bif (v19 ((a0.getD (Int.toNat a1) (0, (0, (0, (0, (0, ())))))), ())) then
        (bif ((k19 ((a0.getD (Int.toNat a1) (0, (0, (0, (0, (0, ())))))), ())) && ((k22 ((a0.getD (Int.toNat a1) (0, (0, (0, (0, (0, ())))))), ())) && (tt 1 ((decide (0 ≤ a1)) && (decide (a1 < ((a0.length : Nat) : Int))))))) then some ([(IntKind.wrap .i64 (a1 + (v22 ((a0.getD (Int.toNat a1) (0, (0, (0, (0, (0, ())))))), ())))), (IntKind.wrap .i64 ((IntKind.wrap .i64 (a1 + 1)) + (a0.getD (Int.toNat a1) (0, (0, (0, (0, (0, ())))))).2.2.2.1))]) else none)
      else
        (bif ((k19 ((a0.getD (Int.toNat a1) (0, (0, (0, (0, (0, ())))))), ())) && ((k22 ((a0.getD (Int.toNat a1) (0, (0, (0, (0, (0, ())))))), ())) && (tt 1 ((decide (0 ≤ a1)) && (decide (a1 < ((a0.length : Nat) : Int))))))) then some ([(IntKind.wrap .i64 (a1 + (v22 ((a0.getD (Int.toNat a1) (0, (0, (0, (0, (0, ())))))), ()))))]) else none))
    else
      (bif (v19 ((a0.getD (Int.toNat a1) (0, (0, (0, (0, (0, ())))))), ())) then
        (bif ((k19 ((a0.getD (Int.toNat a1) (0, (0, (0, (0, (0, ())))))), ())) && (tt 1 ((decide (0 ≤ a1)) && (decide (a1 < ((a0.length : Nat) : Int)))))) then some ([(IntKind.wrap .i64 ((IntKind.wrap .i64 (a1 + 1)) + (a0.getD (Int.toNat a1) (0, (0, (0, (0, (0, ())))))).2.2.2.1))]) else none)
      else
        (bif ((k19 ((a0.getD (Int.toNat a1) (0, (0, (0, (0, (0, ())))))), ())) && (tt 1 ((decide (0 ≤ a1)) && (decide (a1 < ((a0.length : Nat) : Int)))))) then some [] else none)))
  else
    (bif (v19 ((a0.getD (Int.toNat a1) (0, (0, (0, (0, (0, ())))))), ())) then
      (bif ((k19 ((a0.getD (Int.toNat a1) (0, (0, (0, (0, (0, ())))))), ())) && (tt 1 ((decide (0 ≤ a1)) && (decide (a1 < ((a0.length : Nat) : Int)))))) then some ([(IntKind.wrap .i64 ((IntKind.wrap .i64 (a1 + 1)) + (a0.getD (Int.toNat a1) (0, (0, (0, (0, (0, ())))))).2.2.2.1))]) else none)
    else
      (bif ((k19 ((a0.getD (Int.toNat a1) (0, (0, (0, (0, (0, ())))))), ())) && (tt 1 ((decide (0 ≤ a1)) && (decide (a1 < ((a0.length : Nat) : Int)))))) then some [] else none)))
theorem t25 (v19 : ((Int × (Int × KD0)) × Unit) → Bool) (k19 : ((Int × (Int × KD0)) × Unit) → Bool) (v22 : ((Int × (Int × KD0)) × Unit) → Int) (k22 : ((Int × (Int × KD0)) × Unit) → Bool) (a0 : KD1) (a1 : Int) : fnT (CxL Try.Θ (kOf [(19, sm [KT4] .bool v19 k19), (22, sm [KT4] (.int .i64) v22 k22)]) (lOf [])) Try.f25 (.vsl (.int .i64)) [⟨(.vsl KT4), a0⟩, ⟨(.int .i64), a1⟩] = S25 v19 k19 v22 k22 a0 a1 := by kernel_rfl
def hd13_2 : List It := [.sl 0 (.vsl KT4), .ow 3 26 .bool, .ow 6 27 (.int .i64), .sl 7 (.int .i64), .sl 38 (.int .i64), .sl 39 (.int .i64)]
def ys13_2 : Ways := [((.exit 2), [.sl 0 (.vsl KT4), .ow 3 26 .bool, .ow 6 27 (.int .i64), .sl 7 (.int .i64)])]
def hd13_0 : List It := [.sl 0 (.vsl KT4), .ow 3 2 .bool, .ow 6 3 (.int .i64)]
def ys13_0 : Ways := [((.exit 0), [.ow 3 2 .bool])]
noncomputable def R13_2 (v7 : (KD1 × Unit) → (Int × (Int × Unit))) (k7 : (KD1 × Unit) → Bool) (v22 : ((Int × (Int × KD0)) × Unit) → Int) (k22 : ((Int × (Int × KD0)) × Unit) → Bool) (v25 : (KD1 × Int × Unit) → (List Int)) (k25 : (KD1 × Int × Unit) → Bool) (lv2 : (KD1 × (List Bool) × (List Int) × Int × Int × Int × Unit) → (KD1 × (List Bool) × (List Int) × Int × Unit)) (lk2 : (KD1 × (List Bool) × (List Int) × Int × Int × Int × Unit) → Bool) (lv0 : (KD1 × (List Bool) × (List Int) × Unit) → ((List Bool) × Unit)) (lk0 : (KD1 × (List Bool) × (List Int) × Unit) → Bool) (x0 : KD1) (x1 : (List Bool)) (x2 : (List Int)) (x3 : Int) (x4 : Int) (x5 : Int) : Option ((KD1 × (List Bool) × (List Int) × Int × Int × Int × Unit) ⊕ (KD1 × (List Bool) × (List Int) × Int × Unit)) :=
  (bif (decide (x5 < x4)) then
    (bif (((decide (((0 + x1.length) : Nat) ≤ x1.length)) && (tt 1 (decide (((0 + x2.length) : Nat) ≤ x2.length)))) && (tt 1 ((tt 1 (decide (((0 + (Int.toNat (IntKind.wrap .i64 (x3 + x5)))) : Nat) < x1.length))) && (tt 1 ((decide (0 ≤ (IntKind.wrap .i64 (x3 + x5)))) && (decide ((IntKind.wrap .i64 (x3 + x5)) < ((x1.length : Nat) : Int)))))))) then some (.inl (x0, (sec false (lset false x1 (0 + (Int.toNat (IntKind.wrap .i64 (x3 + x5)))) true) 0 x1.length), (sec 0 x2 0 x2.length), x3, x4, (IntKind.wrap .i64 (x5 + 1)), ())) else none)
  else
    (bif (tt 1 ((decide (((0 + x1.length) : Nat) ≤ x1.length)) && (tt 1 (decide (((0 + x2.length) : Nat) ≤ x2.length))))) then some (.inr (x0, (sec false x1 0 x1.length), (sec 0 x2 0 x2.length), x3, ())) else none))
theorem r13_2 (v7 : (KD1 × Unit) → (Int × (Int × Unit))) (k7 : (KD1 × Unit) → Bool) (v22 : ((Int × (Int × KD0)) × Unit) → Int) (k22 : ((Int × (Int × KD0)) × Unit) → Bool) (v25 : (KD1 × Int × Unit) → (List Int)) (k25 : (KD1 × Int × Unit) → Bool) (lv2 : (KD1 × (List Bool) × (List Int) × Int × Int × Int × Unit) → (KD1 × (List Bool) × (List Int) × Int × Unit)) (lk2 : (KD1 × (List Bool) × (List Int) × Int × Int × Int × Unit) → Bool) (lv0 : (KD1 × (List Bool) × (List Int) × Unit) → ((List Bool) × Unit)) (lk0 : (KD1 × (List Bool) × (List Int) × Unit) → Bool) (x0 : KD1) (x1 : (List Bool)) (x2 : (List Int)) (x3 : Int) (x4 : Int) (x5 : Int) : codeT (CxL Try.Θ (kOf [(7, sm [(.vsl KT4)] (.tup (.int .i64) KT6) v7 k7), (22, sm [KT4] (.int .i64) v22 k22), (25, sm [(.vsl KT4), (.int .i64)] (.vsl (.int .i64)) v25 k25)]) (lOf [(2, orc 54 50 2 hd13_2 ys13_2 lv2 lk2), (0, orc 54 26 0 hd13_0 ys13_0 lv0 lk0)])) (loopB 2 (bodyF Try.f13)) (mkS 54 50 hd13_2 (x0, x1, x2, x3, x4, x5, ())) (leafR 54 hd13_2 ys13_2) = R13_2 v7 k7 v22 k22 v25 k25 lv2 lk2 lv0 lk0 x0 x1 x2 x3 x4 x5 := by kernel_rfl
noncomputable def R13_0 (v7 : (KD1 × Unit) → (Int × (Int × Unit))) (k7 : (KD1 × Unit) → Bool) (v22 : ((Int × (Int × KD0)) × Unit) → Int) (k22 : ((Int × (Int × KD0)) × Unit) → Bool) (v25 : (KD1 × Int × Unit) → (List Int)) (k25 : (KD1 × Int × Unit) → Bool) (lv2 : (KD1 × (List Bool) × (List Int) × Int × Int × Int × Unit) → (KD1 × (List Bool) × (List Int) × Int × Unit)) (lk2 : (KD1 × (List Bool) × (List Int) × Int × Int × Int × Unit) → Bool) (lv0 : (KD1 × (List Bool) × (List Int) × Unit) → ((List Bool) × Unit)) (lk0 : (KD1 × (List Bool) × (List Int) × Unit) → Bool) (x0 : KD1) (x1 : (List Bool)) (x2 : (List Int)) : Option ((KD1 × (List Bool) × (List Int) × Unit) ⊕ ((List Bool) × Unit)) :=
  (bif (decide (((x2.length : Nat) : Int) > 0)) then
    (bif (!(x1.getD (0 + (Int.toNat (x2.getD 0 0))) false)) then
      (bif (((decide (((0 + (lv2 (x0, (sec false x1 0 x1.length), (sec 0 x2 1 (Int.toNat (((x2.length : Nat) : Int) - 1))), (x2.getD 0 0), (v22 ((x0.getD (Int.toNat (x2.getD 0 0)) (0, (0, (0, (0, (0, ())))))), ())), 0, ())).2.1.length) : Nat) ≤ (lv2 (x0, (sec false x1 0 x1.length), (sec 0 x2 1 (Int.toNat (((x2.length : Nat) : Int) - 1))), (x2.getD 0 0), (v22 ((x0.getD (Int.toNat (x2.getD 0 0)) (0, (0, (0, (0, (0, ())))))), ())), 0, ())).2.1.length)) && (tt 1 (decide (((0 + ((lv2 (x0, (sec false x1 0 x1.length), (sec 0 x2 1 (Int.toNat (((x2.length : Nat) : Int) - 1))), (x2.getD 0 0), (v22 ((x0.getD (Int.toNat (x2.getD 0 0)) (0, (0, (0, (0, (0, ())))))), ())), 0, ())).2.2.1.length + (v25 ((lv2 (x0, (sec false x1 0 x1.length), (sec 0 x2 1 (Int.toNat (((x2.length : Nat) : Int) - 1))), (x2.getD 0 0), (v22 ((x0.getD (Int.toNat (x2.getD 0 0)) (0, (0, (0, (0, (0, ())))))), ())), 0, ())).1, (lv2 (x0, (sec false x1 0 x1.length), (sec 0 x2 1 (Int.toNat (((x2.length : Nat) : Int) - 1))), (x2.getD 0 0), (v22 ((x0.getD (Int.toNat (x2.getD 0 0)) (0, (0, (0, (0, (0, ())))))), ())), 0, ())).2.2.2.1, ())).length)) : Nat) ≤ ((lv2 (x0, (sec false x1 0 x1.length), (sec 0 x2 1 (Int.toNat (((x2.length : Nat) : Int) - 1))), (x2.getD 0 0), (v22 ((x0.getD (Int.toNat (x2.getD 0 0)) (0, (0, (0, (0, (0, ())))))), ())), 0, ())).2.2.1.length + (v25 ((lv2 (x0, (sec false x1 0 x1.length), (sec 0 x2 1 (Int.toNat (((x2.length : Nat) : Int) - 1))), (x2.getD 0 0), (v22 ((x0.getD (Int.toNat (x2.getD 0 0)) (0, (0, (0, (0, (0, ())))))), ())), 0, ())).1, (lv2 (x0, (sec false x1 0 x1.length), (sec 0 x2 1 (Int.toNat (((x2.length : Nat) : Int) - 1))), (x2.getD 0 0), (v22 ((x0.getD (Int.toNat (x2.getD 0 0)) (0, (0, (0, (0, (0, ())))))), ())), 0, ())).2.2.2.1, ())).length))))) && (tt 1 (((tt 1 (decide (((0 + (lv2 (x0, (sec false x1 0 x1.length), (sec 0 x2 1 (Int.toNat (((x2.length : Nat) : Int) - 1))), (x2.getD 0 0), (v22 ((x0.getD (Int.toNat (x2.getD 0 0)) (0, (0, (0, (0, (0, ())))))), ())), 0, ())).2.2.1.length) : Nat) ≤ (lv2 (x0, (sec false x1 0 x1.length), (sec 0 x2 1 (Int.toNat (((x2.length : Nat) : Int) - 1))), (x2.getD 0 0), (v22 ((x0.getD (Int.toNat (x2.getD 0 0)) (0, (0, (0, (0, (0, ())))))), ())), 0, ())).2.2.1.length))) && (tt 1 (decide (((lv2 (x0, (sec false x1 0 x1.length), (sec 0 x2 1 (Int.toNat (((x2.length : Nat) : Int) - 1))), (x2.getD 0 0), (v22 ((x0.getD (Int.toNat (x2.getD 0 0)) (0, (0, (0, (0, (0, ())))))), ())), 0, ())).2.2.1.length + (v25 ((lv2 (x0, (sec false x1 0 x1.length), (sec 0 x2 1 (Int.toNat (((x2.length : Nat) : Int) - 1))), (x2.getD 0 0), (v22 ((x0.getD (Int.toNat (x2.getD 0 0)) (0, (0, (0, (0, (0, ())))))), ())), 0, ())).1, (lv2 (x0, (sec false x1 0 x1.length), (sec 0 x2 1 (Int.toNat (((x2.length : Nat) : Int) - 1))), (x2.getD 0 0), (v22 ((x0.getD (Int.toNat (x2.getD 0 0)) (0, (0, (0, (0, (0, ())))))), ())), 0, ())).2.2.2.1, ())).length) * 8 ≤ 140737488355328)))) && ((k25 ((lv2 (x0, (sec false x1 0 x1.length), (sec 0 x2 1 (Int.toNat (((x2.length : Nat) : Int) - 1))), (x2.getD 0 0), (v22 ((x0.getD (Int.toNat (x2.getD 0 0)) (0, (0, (0, (0, (0, ())))))), ())), 0, ())).1, (lv2 (x0, (sec false x1 0 x1.length), (sec 0 x2 1 (Int.toNat (((x2.length : Nat) : Int) - 1))), (x2.getD 0 0), (v22 ((x0.getD (Int.toNat (x2.getD 0 0)) (0, (0, (0, (0, (0, ())))))), ())), 0, ())).2.2.2.1, ())) && ((lk2 (x0, (sec false x1 0 x1.length), (sec 0 x2 1 (Int.toNat (((x2.length : Nat) : Int) - 1))), (x2.getD 0 0), (v22 ((x0.getD (Int.toNat (x2.getD 0 0)) (0, (0, (0, (0, (0, ())))))), ())), 0, ())) && (((decide (((0 + x1.length) : Nat) ≤ x1.length)) && (tt 1 (decide (((1 + (Int.toNat (((x2.length : Nat) : Int) - 1))) : Nat) ≤ x2.length)))) && (tt 1 ((k22 ((x0.getD (Int.toNat (x2.getD 0 0)) (0, (0, (0, (0, (0, ())))))), ())) && (((decide (0 ≤ (x2.getD 0 0))) && (decide ((x2.getD 0 0) < ((x0.length : Nat) : Int)))) && ((tt 1 (decide (((0 + (Int.toNat (x2.getD 0 0))) : Nat) < x1.length))) && (((decide (0 ≤ (x2.getD 0 0))) && (decide ((x2.getD 0 0) < ((x1.length : Nat) : Int)))) && (((decide (((x2.length : Nat) : Int) ≤ ((x2.length : Nat) : Int))) && ((decide (0 ≤ ((x2.length : Nat) : Int))) && ((decide (((x2.length : Nat) : Int) ≤ ((x2.length : Nat) : Int))) && (decide (1 ≤ ((x2.length : Nat) : Int)))))) && ((tt 1 (decide ((0 : Nat) < x2.length))) && (tt 1 (decide (0 < ((x2.length : Nat) : Int))))))))))))))))) then some (.inl ((lv2 (x0, (sec false x1 0 x1.length), (sec 0 x2 1 (Int.toNat (((x2.length : Nat) : Int) - 1))), (x2.getD 0 0), (v22 ((x0.getD (Int.toNat (x2.getD 0 0)) (0, (0, (0, (0, (0, ())))))), ())), 0, ())).1, (sec false (lv2 (x0, (sec false x1 0 x1.length), (sec 0 x2 1 (Int.toNat (((x2.length : Nat) : Int) - 1))), (x2.getD 0 0), (v22 ((x0.getD (Int.toNat (x2.getD 0 0)) (0, (0, (0, (0, (0, ())))))), ())), 0, ())).2.1 0 (lv2 (x0, (sec false x1 0 x1.length), (sec 0 x2 1 (Int.toNat (((x2.length : Nat) : Int) - 1))), (x2.getD 0 0), (v22 ((x0.getD (Int.toNat (x2.getD 0 0)) (0, (0, (0, (0, (0, ())))))), ())), 0, ())).2.1.length), (sec 0 ((sec 0 (lv2 (x0, (sec false x1 0 x1.length), (sec 0 x2 1 (Int.toNat (((x2.length : Nat) : Int) - 1))), (x2.getD 0 0), (v22 ((x0.getD (Int.toNat (x2.getD 0 0)) (0, (0, (0, (0, (0, ())))))), ())), 0, ())).2.2.1 0 (lv2 (x0, (sec false x1 0 x1.length), (sec 0 x2 1 (Int.toNat (((x2.length : Nat) : Int) - 1))), (x2.getD 0 0), (v22 ((x0.getD (Int.toNat (x2.getD 0 0)) (0, (0, (0, (0, (0, ())))))), ())), 0, ())).2.2.1.length) ++ (v25 ((lv2 (x0, (sec false x1 0 x1.length), (sec 0 x2 1 (Int.toNat (((x2.length : Nat) : Int) - 1))), (x2.getD 0 0), (v22 ((x0.getD (Int.toNat (x2.getD 0 0)) (0, (0, (0, (0, (0, ())))))), ())), 0, ())).1, (lv2 (x0, (sec false x1 0 x1.length), (sec 0 x2 1 (Int.toNat (((x2.length : Nat) : Int) - 1))), (x2.getD 0 0), (v22 ((x0.getD (Int.toNat (x2.getD 0 0)) (0, (0, (0, (0, (0, ())))))), ())), 0, ())).2.2.2.1, ()))) 0 ((lv2 (x0, (sec false x1 0 x1.length), (sec 0 x2 1 (Int.toNat (((x2.length : Nat) : Int) - 1))), (x2.getD 0 0), (v22 ((x0.getD (Int.toNat (x2.getD 0 0)) (0, (0, (0, (0, (0, ())))))), ())), 0, ())).2.2.1.length + (v25 ((lv2 (x0, (sec false x1 0 x1.length), (sec 0 x2 1 (Int.toNat (((x2.length : Nat) : Int) - 1))), (x2.getD 0 0), (v22 ((x0.getD (Int.toNat (x2.getD 0 0)) (0, (0, (0, (0, (0, ())))))), ())), 0, ())).1, (lv2 (x0, (sec false x1 0 x1.length), (sec 0 x2 1 (Int.toNat (((x2.length : Nat) : Int) - 1))), (x2.getD 0 0), (v22 ((x0.getD (Int.toNat (x2.getD 0 0)) (0, (0, (0, (0, (0, ())))))), ())), 0, ())).2.2.2.1, ())).length)), ())) else none)
    else
      (bif (((decide (((0 + x1.length) : Nat) ≤ x1.length)) && (tt 1 (decide (((1 + (Int.toNat (((x2.length : Nat) : Int) - 1))) : Nat) ≤ x2.length)))) && (tt 1 ((tt 1 (decide (((0 + (Int.toNat (x2.getD 0 0))) : Nat) < x1.length))) && (((decide (0 ≤ (x2.getD 0 0))) && (decide ((x2.getD 0 0) < ((x1.length : Nat) : Int)))) && (((decide (((x2.length : Nat) : Int) ≤ ((x2.length : Nat) : Int))) && ((decide (0 ≤ ((x2.length : Nat) : Int))) && ((decide (((x2.length : Nat) : Int) ≤ ((x2.length : Nat) : Int))) && (decide (1 ≤ ((x2.length : Nat) : Int)))))) && ((tt 1 (decide ((0 : Nat) < x2.length))) && (tt 1 (decide (0 < ((x2.length : Nat) : Int)))))))))) then some (.inl (x0, (sec false x1 0 x1.length), (sec 0 x2 1 (Int.toNat (((x2.length : Nat) : Int) - 1))), ())) else none))
  else
    (bif (tt 2 (decide (((0 + x1.length) : Nat) ≤ x1.length))) then some (.inr ((sec false x1 0 x1.length), ())) else none))
theorem r13_0 (v7 : (KD1 × Unit) → (Int × (Int × Unit))) (k7 : (KD1 × Unit) → Bool) (v22 : ((Int × (Int × KD0)) × Unit) → Int) (k22 : ((Int × (Int × KD0)) × Unit) → Bool) (v25 : (KD1 × Int × Unit) → (List Int)) (k25 : (KD1 × Int × Unit) → Bool) (lv2 : (KD1 × (List Bool) × (List Int) × Int × Int × Int × Unit) → (KD1 × (List Bool) × (List Int) × Int × Unit)) (lk2 : (KD1 × (List Bool) × (List Int) × Int × Int × Int × Unit) → Bool) (lv0 : (KD1 × (List Bool) × (List Int) × Unit) → ((List Bool) × Unit)) (lk0 : (KD1 × (List Bool) × (List Int) × Unit) → Bool) (x0 : KD1) (x1 : (List Bool)) (x2 : (List Int)) : codeT (CxL Try.Θ (kOf [(7, sm [(.vsl KT4)] (.tup (.int .i64) KT6) v7 k7), (22, sm [KT4] (.int .i64) v22 k22), (25, sm [(.vsl KT4), (.int .i64)] (.vsl (.int .i64)) v25 k25)]) (lOf [(2, orc 54 50 2 hd13_2 ys13_2 lv2 lk2), (0, orc 54 26 0 hd13_0 ys13_0 lv0 lk0)])) (loopB 0 (bodyF Try.f13)) (mkS 54 26 hd13_0 (x0, x1, x2, ())) (leafR 54 hd13_0 ys13_0) = R13_0 v7 k7 v22 k22 v25 k25 lv2 lk2 lv0 lk0 x0 x1 x2 := by kernel_rfl
noncomputable def S13 (v7 : (KD1 × Unit) → (Int × (Int × Unit))) (k7 : (KD1 × Unit) → Bool) (v22 : ((Int × (Int × KD0)) × Unit) → Int) (k22 : ((Int × (Int × KD0)) × Unit) → Bool) (v25 : (KD1 × Int × Unit) → (List Int)) (k25 : (KD1 × Int × Unit) → Bool) (lv2 : (KD1 × (List Bool) × (List Int) × Int × Int × Int × Unit) → (KD1 × (List Bool) × (List Int) × Int × Unit)) (lk2 : (KD1 × (List Bool) × (List Int) × Int × Int × Int × Unit) → Bool) (lv0 : (KD1 × (List Bool) × (List Int) × Unit) → ((List Bool) × Unit)) (lk0 : (KD1 × (List Bool) × (List Int) × Unit) → Bool) (a0 : KD1) : Option (List Bool) :=
  (bif (!(decide ((v7 (a0, ())).2.1 = 0))) then
    (bif (((tt 1 ((decide (((0 + (Int.toNat ((a0.length : Nat) : Int))) : Nat) ≤ (Int.toNat ((a0.length : Nat) : Int)))) && ((tt 1 (decide (((0 + (Int.toNat ((a0.length : Nat) : Int))) : Nat) ≤ (Int.toNat ((a0.length : Nat) : Int))))) && (tt 1 (decide (((0 + (Int.toNat ((a0.length : Nat) : Int))) : Nat) ≤ (Int.toNat ((a0.length : Nat) : Int)))))))) && (tt 1 (decide (((0 + (Int.toNat ((a0.length : Nat) : Int))) : Nat) ≤ (Int.toNat ((a0.length : Nat) : Int)))))) && ((k7 (a0, ())) && (tt 1 ((decide (0 ≤ ((a0.length : Nat) : Int))) && ((decide (((a0.length : Nat) : Int) ≤ ((a0.length : Nat) : Int))) && ((decide (1 * ((a0.length : Nat) : Int) ≤ 281474976710656)) && (decide (((a0.length : Nat) : Int) ≤ 281474976710656)))))))) then some (sec false ([] : List Bool) 0 (Int.toNat ((a0.length : Nat) : Int))) else none)
  else
    (bif ((((tt 1 (decide (((0 + (lv0 (a0, (sec false ([] : List Bool) 0 (Int.toNat ((a0.length : Nat) : Int))), [0], ())).1.length) : Nat) ≤ (lv0 (a0, (sec false ([] : List Bool) 0 (Int.toNat ((a0.length : Nat) : Int))), [0], ())).1.length))) && (tt 2 (decide (((0 + (lv0 (a0, (sec false ([] : List Bool) 0 (Int.toNat ((a0.length : Nat) : Int))), [0], ())).1.length) : Nat) ≤ (lv0 (a0, (sec false ([] : List Bool) 0 (Int.toNat ((a0.length : Nat) : Int))), [0], ())).1.length)))) && (tt 1 (decide (((0 + (lv0 (a0, (sec false ([] : List Bool) 0 (Int.toNat ((a0.length : Nat) : Int))), [0], ())).1.length) : Nat) ≤ (lv0 (a0, (sec false ([] : List Bool) 0 (Int.toNat ((a0.length : Nat) : Int))), [0], ())).1.length)))) && ((lk0 (a0, (sec false ([] : List Bool) 0 (Int.toNat ((a0.length : Nat) : Int))), [0], ())) && (((decide (((0 + (Int.toNat ((a0.length : Nat) : Int))) : Nat) ≤ (Int.toNat ((a0.length : Nat) : Int)))) && (tt 1 (decide (((0 + (Int.toNat ((a0.length : Nat) : Int))) : Nat) ≤ (Int.toNat ((a0.length : Nat) : Int)))))) && (tt 1 ((k7 (a0, ())) && (tt 1 ((decide (0 ≤ ((a0.length : Nat) : Int))) && ((decide (((a0.length : Nat) : Int) ≤ ((a0.length : Nat) : Int))) && ((decide (1 * ((a0.length : Nat) : Int) ≤ 281474976710656)) && (decide (((a0.length : Nat) : Int) ≤ 281474976710656))))))))))) then some (sec false (lv0 (a0, (sec false ([] : List Bool) 0 (Int.toNat ((a0.length : Nat) : Int))), [0], ())).1 0 (lv0 (a0, (sec false ([] : List Bool) 0 (Int.toNat ((a0.length : Nat) : Int))), [0], ())).1.length) else none))
theorem t13 (v7 : (KD1 × Unit) → (Int × (Int × Unit))) (k7 : (KD1 × Unit) → Bool) (v22 : ((Int × (Int × KD0)) × Unit) → Int) (k22 : ((Int × (Int × KD0)) × Unit) → Bool) (v25 : (KD1 × Int × Unit) → (List Int)) (k25 : (KD1 × Int × Unit) → Bool) (lv2 : (KD1 × (List Bool) × (List Int) × Int × Int × Int × Unit) → (KD1 × (List Bool) × (List Int) × Int × Unit)) (lk2 : (KD1 × (List Bool) × (List Int) × Int × Int × Int × Unit) → Bool) (lv0 : (KD1 × (List Bool) × (List Int) × Unit) → ((List Bool) × Unit)) (lk0 : (KD1 × (List Bool) × (List Int) × Unit) → Bool) (a0 : KD1) : fnT (CxL Try.Θ (kOf [(7, sm [(.vsl KT4)] (.tup (.int .i64) KT6) v7 k7), (22, sm [KT4] (.int .i64) v22 k22), (25, sm [(.vsl KT4), (.int .i64)] (.vsl (.int .i64)) v25 k25)]) (lOf [(2, orc 54 50 2 hd13_2 ys13_2 lv2 lk2), (0, orc 54 26 0 hd13_0 ys13_0 lv0 lk0)])) Try.f13 (.vsl .bool) [⟨(.vsl KT4), a0⟩] = S13 v7 k7 v22 k22 v25 k25 lv2 lk2 lv0 lk0 a0 := by kernel_rfl
noncomputable def S15 (v7 : (KD1 × Unit) → (Int × (Int × Unit))) (k7 : (KD1 × Unit) → Bool) (v18 : (KD1 × Unit) → KD5) (k18 : (KD1 × Unit) → Bool) (v25 : (KD1 × Int × Unit) → (List Int)) (k25 : (KD1 × Int × Unit) → Bool) (a0 : KD1) (a1 : Int) : Option (List Int) :=
  (bif (!(decide ((v7 (a0, ())).2.1 = 0))) then
    (bif (tt 1 (k7 (a0, ()))) then some [] else none)
  else
    (bif (decide (a1 < 0)) then
      (bif (tt 1 (k7 (a0, ()))) then some [] else none)
    else
      (bif (decide (a1 ≥ ((a0.length : Nat) : Int))) then
        (bif (tt 1 (k7 (a0, ()))) then some [] else none)
      else
        (bif (!((v18 (a0, ())).1.getD (Int.toNat a1) false)) then
          (bif (((decide (0 ≤ a1)) && (decide (a1 < (((v18 (a0, ())).1.length : Nat) : Int)))) && ((k18 (a0, ())) && (tt 1 (k7 (a0, ()))))) then some [] else none)
        else
          (bif ((k25 (a0, a1, ())) && (((decide (0 ≤ a1)) && (decide (a1 < (((v18 (a0, ())).1.length : Nat) : Int)))) && ((k18 (a0, ())) && (tt 1 (k7 (a0, ())))))) then some (v25 (a0, a1, ())) else none)))))
theorem t15 (v7 : (KD1 × Unit) → (Int × (Int × Unit))) (k7 : (KD1 × Unit) → Bool) (v18 : (KD1 × Unit) → KD5) (k18 : (KD1 × Unit) → Bool) (v25 : (KD1 × Int × Unit) → (List Int)) (k25 : (KD1 × Int × Unit) → Bool) (a0 : KD1) (a1 : Int) : fnT (CxL Try.Θ (kOf [(7, sm [(.vsl KT4)] (.tup (.int .i64) KT6) v7 k7), (18, sm [(.vsl KT4)] (.tup (.vsl .bool) KT6) v18 k18), (25, sm [(.vsl KT4), (.int .i64)] (.vsl (.int .i64)) v25 k25)]) (lOf [])) Try.f15 (.vsl (.int .i64)) [⟨(.vsl KT4), a0⟩, ⟨(.int .i64), a1⟩] = S15 v7 k7 v18 k18 v25 k25 a0 a1 := by kernel_rfl
def hd5_2 : List It := [.sl 0 (.vsl KT4), .sl 5 (.vsl .bool), .sl 6 (.int .i64), .sl 7 (.vsl (.int .i64)), .sl 8 (.int .i64)]
def ys5_2 : Ways := [((.exit 2), [.sl 0 (.vsl KT4), .sl 5 (.vsl .bool), .sl 6 (.int .i64)]), (.ret, [.sl 2 .bool])]
def hd5_0 : List It := [.sl 0 (.vsl KT4), .sl 5 (.vsl .bool), .sl 6 (.int .i64)]
def ys5_0 : Ways := [((.exit 0), [.sl 5 (.vsl .bool)]), (.ret, [.sl 2 .bool])]
noncomputable def R5_2 (v7 : (KD1 × Unit) → (Int × (Int × Unit))) (k7 : (KD1 × Unit) → Bool) (v12 : (Unit) → Bool) (k12 : (Unit) → Bool) (v13 : (KD1 × Unit) → (List Bool)) (k13 : (KD1 × Unit) → Bool) (v15 : (KD1 × Int × Unit) → (List Int)) (k15 : (KD1 × Int × Unit) → Bool) (v17 : ((Int × (Int × KD0)) × Unit) → Bool) (k17 : ((Int × (Int × KD0)) × Unit) → Bool) (lv2 : (KD1 × (List Bool) × Int × (List Int) × Int × Unit) → ((KD1 × (List Bool) × Int × Unit) ⊕ (Bool × Unit))) (lk2 : (KD1 × (List Bool) × Int × (List Int) × Int × Unit) → Bool) (lv0 : (KD1 × (List Bool) × Int × Unit) → (((List Bool) × Unit) ⊕ (Bool × Unit))) (lk0 : (KD1 × (List Bool) × Int × Unit) → Bool) (x0 : KD1) (x1 : (List Bool)) (x2 : Int) (x3 : (List Int)) (x4 : Int) : Option ((KD1 × (List Bool) × Int × (List Int) × Int × Unit) ⊕ ((KD1 × (List Bool) × Int × Unit) ⊕ (Bool × Unit))) :=
  (bif (decide (x4 < ((x3.length : Nat) : Int))) then
    (bif (decide ((x3.getD (Int.toNat x4) 0) < 0)) then
      (bif (tt 2 ((decide (0 ≤ x4)) && (decide (x4 < ((x3.length : Nat) : Int))))) then some (.inr (.inr (false, ()))) else none)
    else
      (bif (decide ((x3.getD (Int.toNat x4) 0) ≥ ((x0.length : Nat) : Int))) then
        (bif (tt 1 (((decide (0 ≤ x4)) && (decide (x4 < ((x3.length : Nat) : Int)))) && (tt 1 ((decide (0 ≤ x4)) && (decide (x4 < ((x3.length : Nat) : Int))))))) then some (.inr (.inr (false, ()))) else none)
      else
        (bif (!(v17 ((x0.getD (Int.toNat (x3.getD (Int.toNat x4) 0)) (0, (0, (0, (0, (0, ())))))), ()))) then
          (bif (tt 1 ((k17 ((x0.getD (Int.toNat (x3.getD (Int.toNat x4) 0)) (0, (0, (0, (0, (0, ())))))), ())) && (((decide (0 ≤ (x3.getD (Int.toNat x4) 0))) && (decide ((x3.getD (Int.toNat x4) 0) < ((x0.length : Nat) : Int)))) && (((decide (0 ≤ x4)) && (decide (x4 < ((x3.length : Nat) : Int)))) && (((decide (0 ≤ x4)) && (decide (x4 < ((x3.length : Nat) : Int)))) && (tt 1 ((decide (0 ≤ x4)) && (decide (x4 < ((x3.length : Nat) : Int)))))))))) then some (.inr (.inr (false, ()))) else none)
        else
          (bif (x1.getD (Int.toNat x2) false) then
            (bif (!(x1.getD (Int.toNat (x3.getD (Int.toNat x4) 0)) false)) then
              (bif (tt 1 (((decide (0 ≤ (x3.getD (Int.toNat x4) 0))) && (decide ((x3.getD (Int.toNat x4) 0) < ((x1.length : Nat) : Int)))) && (((decide (0 ≤ x4)) && (decide (x4 < ((x3.length : Nat) : Int)))) && (((decide (0 ≤ x2)) && (decide (x2 < ((x1.length : Nat) : Int)))) && ((k17 ((x0.getD (Int.toNat (x3.getD (Int.toNat x4) 0)) (0, (0, (0, (0, (0, ())))))), ())) && (((decide (0 ≤ (x3.getD (Int.toNat x4) 0))) && (decide ((x3.getD (Int.toNat x4) 0) < ((x0.length : Nat) : Int)))) && (((decide (0 ≤ x4)) && (decide (x4 < ((x3.length : Nat) : Int)))) && (((decide (0 ≤ x4)) && (decide (x4 < ((x3.length : Nat) : Int)))) && (tt 1 ((decide (0 ≤ x4)) && (decide (x4 < ((x3.length : Nat) : Int))))))))))))) then some (.inr (.inr (false, ()))) else none)
            else
              (bif (tt 1 (((decide (0 ≤ (x3.getD (Int.toNat x4) 0))) && (decide ((x3.getD (Int.toNat x4) 0) < ((x1.length : Nat) : Int)))) && (((decide (0 ≤ x4)) && (decide (x4 < ((x3.length : Nat) : Int)))) && (((decide (0 ≤ x2)) && (decide (x2 < ((x1.length : Nat) : Int)))) && ((k17 ((x0.getD (Int.toNat (x3.getD (Int.toNat x4) 0)) (0, (0, (0, (0, (0, ())))))), ())) && (((decide (0 ≤ (x3.getD (Int.toNat x4) 0))) && (decide ((x3.getD (Int.toNat x4) 0) < ((x0.length : Nat) : Int)))) && (((decide (0 ≤ x4)) && (decide (x4 < ((x3.length : Nat) : Int)))) && (((decide (0 ≤ x4)) && (decide (x4 < ((x3.length : Nat) : Int)))) && (tt 1 ((decide (0 ≤ x4)) && (decide (x4 < ((x3.length : Nat) : Int))))))))))))) then some (.inl (x0, x1, x2, x3, (IntKind.wrap .i64 (x4 + 1)), ())) else none))
          else
            (bif (tt 1 (((decide (0 ≤ x2)) && (decide (x2 < ((x1.length : Nat) : Int)))) && ((k17 ((x0.getD (Int.toNat (x3.getD (Int.toNat x4) 0)) (0, (0, (0, (0, (0, ())))))), ())) && (((decide (0 ≤ (x3.getD (Int.toNat x4) 0))) && (decide ((x3.getD (Int.toNat x4) 0) < ((x0.length : Nat) : Int)))) && (((decide (0 ≤ x4)) && (decide (x4 < ((x3.length : Nat) : Int)))) && (((decide (0 ≤ x4)) && (decide (x4 < ((x3.length : Nat) : Int)))) && (tt 1 ((decide (0 ≤ x4)) && (decide (x4 < ((x3.length : Nat) : Int))))))))))) then some (.inl (x0, x1, x2, x3, (IntKind.wrap .i64 (x4 + 1)), ())) else none)))))
  else
    some (.inr (.inl (x0, x1, x2, ()))))
theorem r5_2 (v7 : (KD1 × Unit) → (Int × (Int × Unit))) (k7 : (KD1 × Unit) → Bool) (v12 : (Unit) → Bool) (k12 : (Unit) → Bool) (v13 : (KD1 × Unit) → (List Bool)) (k13 : (KD1 × Unit) → Bool) (v15 : (KD1 × Int × Unit) → (List Int)) (k15 : (KD1 × Int × Unit) → Bool) (v17 : ((Int × (Int × KD0)) × Unit) → Bool) (k17 : ((Int × (Int × KD0)) × Unit) → Bool) (lv2 : (KD1 × (List Bool) × Int × (List Int) × Int × Unit) → ((KD1 × (List Bool) × Int × Unit) ⊕ (Bool × Unit))) (lk2 : (KD1 × (List Bool) × Int × (List Int) × Int × Unit) → Bool) (lv0 : (KD1 × (List Bool) × Int × Unit) → (((List Bool) × Unit) ⊕ (Bool × Unit))) (lk0 : (KD1 × (List Bool) × Int × Unit) → Bool) (x0 : KD1) (x1 : (List Bool)) (x2 : Int) (x3 : (List Int)) (x4 : Int) : codeT (CxL Try.Θ (kOf [(7, sm [(.vsl KT4)] (.tup (.int .i64) KT6) v7 k7), (12, sm [] .bool v12 k12), (13, sm [(.vsl KT4)] (.vsl .bool) v13 k13), (15, sm [(.vsl KT4), (.int .i64)] (.vsl (.int .i64)) v15 k15), (17, sm [KT4] .bool v17 k17)]) (lOf [(2, orc 104 48 2 hd5_2 ys5_2 lv2 lk2), (0, orc 104 24 0 hd5_0 ys5_0 lv0 lk0)])) (loopB 2 (bodyF Try.f5)) (mkS 104 48 hd5_2 (x0, x1, x2, x3, x4, ())) (leafR 104 hd5_2 ys5_2) = R5_2 v7 k7 v12 k12 v13 k13 v15 k15 v17 k17 lv2 lk2 lv0 lk0 x0 x1 x2 x3 x4 := by kernel_rfl
noncomputable def R5_0 (v7 : (KD1 × Unit) → (Int × (Int × Unit))) (k7 : (KD1 × Unit) → Bool) (v12 : (Unit) → Bool) (k12 : (Unit) → Bool) (v13 : (KD1 × Unit) → (List Bool)) (k13 : (KD1 × Unit) → Bool) (v15 : (KD1 × Int × Unit) → (List Int)) (k15 : (KD1 × Int × Unit) → Bool) (v17 : ((Int × (Int × KD0)) × Unit) → Bool) (k17 : ((Int × (Int × KD0)) × Unit) → Bool) (lv2 : (KD1 × (List Bool) × Int × (List Int) × Int × Unit) → ((KD1 × (List Bool) × Int × Unit) ⊕ (Bool × Unit))) (lk2 : (KD1 × (List Bool) × Int × (List Int) × Int × Unit) → Bool) (lv0 : (KD1 × (List Bool) × Int × Unit) → (((List Bool) × Unit) ⊕ (Bool × Unit))) (lk0 : (KD1 × (List Bool) × Int × Unit) → Bool) (x0 : KD1) (x1 : (List Bool)) (x2 : Int) : Option ((KD1 × (List Bool) × Int × Unit) ⊕ (((List Bool) × Unit) ⊕ (Bool × Unit))) :=
  (bif (decide (x2 < ((x0.length : Nat) : Int))) then
    (bif (decide (x2 < 200)) then
      (bif (isL (lv2 (x0, x1, x2, (v15 (x0, x2, ())), 0, ()))) then
        (bif (tt 1 ((lk2 (x0, x1, x2, (v15 (x0, x2, ())), 0, ())) && (tt 2 (k15 (x0, x2, ()))))) then some (.inl ((getL (([], [], 0, ()) : (KD1 × (List Bool) × Int × Unit)) (lv2 (x0, x1, x2, (v15 (x0, x2, ())), 0, ()))).1, (getL (([], [], 0, ()) : (KD1 × (List Bool) × Int × Unit)) (lv2 (x0, x1, x2, (v15 (x0, x2, ())), 0, ()))).2.1, (IntKind.wrap .i64 ((getL (([], [], 0, ()) : (KD1 × (List Bool) × Int × Unit)) (lv2 (x0, x1, x2, (v15 (x0, x2, ())), 0, ()))).2.2.1 + 1)), ())) else none)
      else
        (bif (tt 1 ((lk2 (x0, x1, x2, (v15 (x0, x2, ())), 0, ())) && (tt 2 (k15 (x0, x2, ()))))) then some (.inr (.inr ((getR ((false, ()) : (Bool × Unit)) (lv2 (x0, x1, x2, (v15 (x0, x2, ())), 0, ()))).1, ()))) else none))
    else
      some (.inr (.inl (x1, ()))))
  else
    some (.inr (.inl (x1, ()))))
theorem r5_0 (v7 : (KD1 × Unit) → (Int × (Int × Unit))) (k7 : (KD1 × Unit) → Bool) (v12 : (Unit) → Bool) (k12 : (Unit) → Bool) (v13 : (KD1 × Unit) → (List Bool)) (k13 : (KD1 × Unit) → Bool) (v15 : (KD1 × Int × Unit) → (List Int)) (k15 : (KD1 × Int × Unit) → Bool) (v17 : ((Int × (Int × KD0)) × Unit) → Bool) (k17 : ((Int × (Int × KD0)) × Unit) → Bool) (lv2 : (KD1 × (List Bool) × Int × (List Int) × Int × Unit) → ((KD1 × (List Bool) × Int × Unit) ⊕ (Bool × Unit))) (lk2 : (KD1 × (List Bool) × Int × (List Int) × Int × Unit) → Bool) (lv0 : (KD1 × (List Bool) × Int × Unit) → (((List Bool) × Unit) ⊕ (Bool × Unit))) (lk0 : (KD1 × (List Bool) × Int × Unit) → Bool) (x0 : KD1) (x1 : (List Bool)) (x2 : Int) : codeT (CxL Try.Θ (kOf [(7, sm [(.vsl KT4)] (.tup (.int .i64) KT6) v7 k7), (12, sm [] .bool v12 k12), (13, sm [(.vsl KT4)] (.vsl .bool) v13 k13), (15, sm [(.vsl KT4), (.int .i64)] (.vsl (.int .i64)) v15 k15), (17, sm [KT4] .bool v17 k17)]) (lOf [(2, orc 104 48 2 hd5_2 ys5_2 lv2 lk2), (0, orc 104 24 0 hd5_0 ys5_0 lv0 lk0)])) (loopB 0 (bodyF Try.f5)) (mkS 104 24 hd5_0 (x0, x1, x2, ())) (leafR 104 hd5_0 ys5_0) = R5_0 v7 k7 v12 k12 v13 k13 v15 k15 v17 k17 lv2 lk2 lv0 lk0 x0 x1 x2 := by kernel_rfl
noncomputable def S5 (v7 : (KD1 × Unit) → (Int × (Int × Unit))) (k7 : (KD1 × Unit) → Bool) (v12 : (Unit) → Bool) (k12 : (Unit) → Bool) (v13 : (KD1 × Unit) → (List Bool)) (k13 : (KD1 × Unit) → Bool) (v15 : (KD1 × Int × Unit) → (List Int)) (k15 : (KD1 × Int × Unit) → Bool) (v17 : ((Int × (Int × KD0)) × Unit) → Bool) (k17 : ((Int × (Int × KD0)) × Unit) → Bool) (lv2 : (KD1 × (List Bool) × Int × (List Int) × Int × Unit) → ((KD1 × (List Bool) × Int × Unit) ⊕ (Bool × Unit))) (lk2 : (KD1 × (List Bool) × Int × (List Int) × Int × Unit) → Bool) (lv0 : (KD1 × (List Bool) × Int × Unit) → (((List Bool) × Unit) ⊕ (Bool × Unit))) (lk0 : (KD1 × (List Bool) × Int × Unit) → Bool) (a0 : KD1) : Option Bool :=
  (bif (!(decide ((v7 (a0, ())).2.1 = 0))) then
    (bif (decide ((((v13 (a0, ())).length : Nat) : Int) = ((a0.length : Nat) : Int))) then
      (bif ((k12 (())) && ((k13 (a0, ())) && (tt 1 (k7 (a0, ()))))) then some (v12 (())) else none)
    else
      (bif ((k13 (a0, ())) && (tt 1 (k7 (a0, ())))) then some false else none))
  else
    (bif (!(decide ((((v13 (a0, ())).length : Nat) : Int) = ((a0.length : Nat) : Int)))) then
      (bif (decide ((((v13 (a0, ())).length : Nat) : Int) = ((a0.length : Nat) : Int))) then
        (bif ((k12 (())) && ((k13 (a0, ())) && (tt 1 (k7 (a0, ()))))) then some (v12 (())) else none)
      else
        (bif ((k13 (a0, ())) && (tt 1 (k7 (a0, ())))) then some false else none))
    else
      (bif (isL (lv0 (a0, (v13 (a0, ())), 0, ()))) then
        (bif (decide ((((getL (([], ()) : ((List Bool) × Unit)) (lv0 (a0, (v13 (a0, ())), 0, ()))).1.length : Nat) : Int) > 0)) then
          (bif ((getL (([], ()) : ((List Bool) × Unit)) (lv0 (a0, (v13 (a0, ())), 0, ()))).1.getD 0 false) then
            (bif ((k12 (())) && ((decide (0 < (((getL (([], ()) : ((List Bool) × Unit)) (lv0 (a0, (v13 (a0, ())), 0, ()))).1.length : Nat) : Int))) && ((lk0 (a0, (v13 (a0, ())), 0, ())) && (tt 1 ((k13 (a0, ())) && (tt 1 (k7 (a0, ())))))))) then some (v12 (())) else none)
          else
            (bif ((decide (0 < (((getL (([], ()) : ((List Bool) × Unit)) (lv0 (a0, (v13 (a0, ())), 0, ()))).1.length : Nat) : Int))) && ((lk0 (a0, (v13 (a0, ())), 0, ())) && (tt 1 ((k13 (a0, ())) && (tt 1 (k7 (a0, ()))))))) then some false else none))
        else
          (bif ((lk0 (a0, (v13 (a0, ())), 0, ())) && (tt 1 ((k13 (a0, ())) && (tt 1 (k7 (a0, ())))))) then some false else none))
      else
        (bif ((lk0 (a0, (v13 (a0, ())), 0, ())) && (tt 1 ((k13 (a0, ())) && (tt 1 (k7 (a0, ())))))) then some (getR ((false, ()) : (Bool × Unit)) (lv0 (a0, (v13 (a0, ())), 0, ()))).1 else none))))
theorem t5 (v7 : (KD1 × Unit) → (Int × (Int × Unit))) (k7 : (KD1 × Unit) → Bool) (v12 : (Unit) → Bool) (k12 : (Unit) → Bool) (v13 : (KD1 × Unit) → (List Bool)) (k13 : (KD1 × Unit) → Bool) (v15 : (KD1 × Int × Unit) → (List Int)) (k15 : (KD1 × Int × Unit) → Bool) (v17 : ((Int × (Int × KD0)) × Unit) → Bool) (k17 : ((Int × (Int × KD0)) × Unit) → Bool) (lv2 : (KD1 × (List Bool) × Int × (List Int) × Int × Unit) → ((KD1 × (List Bool) × Int × Unit) ⊕ (Bool × Unit))) (lk2 : (KD1 × (List Bool) × Int × (List Int) × Int × Unit) → Bool) (lv0 : (KD1 × (List Bool) × Int × Unit) → (((List Bool) × Unit) ⊕ (Bool × Unit))) (lk0 : (KD1 × (List Bool) × Int × Unit) → Bool) (a0 : KD1) : fnT (CxL Try.Θ (kOf [(7, sm [(.vsl KT4)] (.tup (.int .i64) KT6) v7 k7), (12, sm [] .bool v12 k12), (13, sm [(.vsl KT4)] (.vsl .bool) v13 k13), (15, sm [(.vsl KT4), (.int .i64)] (.vsl (.int .i64)) v15 k15), (17, sm [KT4] .bool v17 k17)]) (lOf [(2, orc 104 48 2 hd5_2 ys5_2 lv2 lk2), (0, orc 104 24 0 hd5_0 ys5_0 lv0 lk0)])) Try.f5 .bool [⟨(.vsl KT4), a0⟩] = S5 v7 k7 v12 k12 v13 k13 v15 k15 v17 k17 lv2 lk2 lv0 lk0 a0 := by kernel_rfl
def hd6_0 : List It := [.sl 0 (.vsl KT4), .sl 8 (.vsl .bool), .sl 9 (.vsl .bool), .sl 10 (.int .i64)]
def ys6_0 : Ways := [((.exit 0), []), (.ret, [.sl 2 .bool])]
noncomputable def R6_0 (v7 : (KD1 × Unit) → (Int × (Int × Unit))) (k7 : (KD1 × Unit) → Bool) (v12 : (Unit) → Bool) (k12 : (Unit) → Bool) (v13 : (KD1 × Unit) → (List Bool)) (k13 : (KD1 × Unit) → Bool) (lv0 : (KD1 × (List Bool) × (List Bool) × Int × Unit) → ((Unit) ⊕ (Bool × Unit))) (lk0 : (KD1 × (List Bool) × (List Bool) × Int × Unit) → Bool) (x0 : KD1) (x1 : (List Bool)) (x2 : (List Bool)) (x3 : Int) : Option ((KD1 × (List Bool) × (List Bool) × Int × Unit) ⊕ ((Unit) ⊕ (Bool × Unit))) :=
  (bif (decide (x3 < ((x0.length : Nat) : Int))) then
    (bif (!((x1.getD (Int.toNat x3) false) == (x2.getD (Int.toNat x3) false))) then
      (bif (tt 2 (((decide (0 ≤ x3)) && (decide (x3 < ((x2.length : Nat) : Int)))) && (tt 1 ((decide (0 ≤ x3)) && (decide (x3 < ((x1.length : Nat) : Int))))))) then some (.inr (.inr (false, ()))) else none)
    else
      (bif (tt 2 (((decide (0 ≤ x3)) && (decide (x3 < ((x2.length : Nat) : Int)))) && (tt 1 ((decide (0 ≤ x3)) && (decide (x3 < ((x1.length : Nat) : Int))))))) then some (.inl (x0, x1, x2, (IntKind.wrap .i64 (x3 + 1)), ())) else none))
  else
    some (.inr (.inl (()))))
theorem r6_0 (v7 : (KD1 × Unit) → (Int × (Int × Unit))) (k7 : (KD1 × Unit) → Bool) (v12 : (Unit) → Bool) (k12 : (Unit) → Bool) (v13 : (KD1 × Unit) → (List Bool)) (k13 : (KD1 × Unit) → Bool) (lv0 : (KD1 × (List Bool) × (List Bool) × Int × Unit) → ((Unit) ⊕ (Bool × Unit))) (lk0 : (KD1 × (List Bool) × (List Bool) × Int × Unit) → Bool) (x0 : KD1) (x1 : (List Bool)) (x2 : (List Bool)) (x3 : Int) : codeT (CxL Try.Θ (kOf [(7, sm [(.vsl KT4)] (.tup (.int .i64) KT6) v7 k7), (12, sm [] .bool v12 k12), (13, sm [(.vsl KT4)] (.vsl .bool) v13 k13)]) (lOf [(0, orc 77 27 0 hd6_0 ys6_0 lv0 lk0)])) (loopB 0 (bodyF Try.f6)) (mkS 77 27 hd6_0 (x0, x1, x2, x3, ())) (leafR 77 hd6_0 ys6_0) = R6_0 v7 k7 v12 k12 v13 k13 lv0 lk0 x0 x1 x2 x3 := by kernel_rfl
noncomputable def S6 (v7 : (KD1 × Unit) → (Int × (Int × Unit))) (k7 : (KD1 × Unit) → Bool) (v12 : (Unit) → Bool) (k12 : (Unit) → Bool) (v13 : (KD1 × Unit) → (List Bool)) (k13 : (KD1 × Unit) → Bool) (lv0 : (KD1 × (List Bool) × (List Bool) × Int × Unit) → ((Unit) ⊕ (Bool × Unit))) (lk0 : (KD1 × (List Bool) × (List Bool) × Int × Unit) → Bool) (a0 : KD1) : Option Bool :=
  (bif (!(decide ((v7 (a0, ())).2.1 = 0))) then
    (bif ((k12 (())) && (tt 1 (k7 (a0, ())))) then some (v12 (())) else none)
  else
    (bif (decide (((a0.length : Nat) : Int) ≥ 4000)) then
      (bif ((k12 (())) && (tt 1 (k7 (a0, ())))) then some (v12 (())) else none)
    else
      (bif (!(decide ((v7 ((sec (0, (0, (0, (0, (0, ()))))) ((sec (0, (0, (0, (0, (0, ()))))) a0 0 (0 + a0.length)) ++ ([(149, (0, (0, (0, (0, ())))))] : List (Int × (Int × KD0)))) 0 ((0 + a0.length) + 1)), ())).2.1 = 0))) then
        (bif ((k13 ((sec (0, (0, (0, (0, (0, ()))))) ((sec (0, (0, (0, (0, (0, ()))))) a0 0 (0 + a0.length)) ++ ([(149, (0, (0, (0, (0, ())))))] : List (Int × (Int × KD0)))) 0 ((0 + a0.length) + 1)), ())) && ((k13 (a0, ())) && ((k7 ((sec (0, (0, (0, (0, (0, ()))))) ((sec (0, (0, (0, (0, (0, ()))))) a0 0 (0 + a0.length)) ++ ([(149, (0, (0, (0, (0, ())))))] : List (Int × (Int × KD0)))) 0 ((0 + a0.length) + 1)), ())) && (((tt 1 (decide (((0 + ((0 + a0.length) + 1)) : Nat) ≤ ((0 + a0.length) + 1)))) && ((tt 1 (decide (((0 + ((0 + a0.length) + 1)) : Nat) ≤ ((0 + a0.length) + 1)))) && (tt 1 (decide (((0 + ((0 + a0.length) + 1)) : Nat) ≤ ((0 + a0.length) + 1)))))) && (((tt 1 (decide (((0 + (0 + a0.length)) : Nat) ≤ (0 + a0.length)))) && (tt 1 (decide (((0 + a0.length) + 1) * 40 ≤ 140737488355328)))) && ((tt 1 (decide ((0 + a0.length) * 40 ≤ 140737488355328))) && (tt 1 (k7 (a0, ()))))))))) then some false else none)
      else
        (bif (!(decide ((((v13 (a0, ())).length : Nat) : Int) = ((a0.length : Nat) : Int)))) then
          (bif ((k13 ((sec (0, (0, (0, (0, (0, ()))))) ((sec (0, (0, (0, (0, (0, ()))))) a0 0 (0 + a0.length)) ++ ([(149, (0, (0, (0, (0, ())))))] : List (Int × (Int × KD0)))) 0 ((0 + a0.length) + 1)), ())) && ((k13 (a0, ())) && ((k7 ((sec (0, (0, (0, (0, (0, ()))))) ((sec (0, (0, (0, (0, (0, ()))))) a0 0 (0 + a0.length)) ++ ([(149, (0, (0, (0, (0, ())))))] : List (Int × (Int × KD0)))) 0 ((0 + a0.length) + 1)), ())) && (((tt 1 (decide (((0 + ((0 + a0.length) + 1)) : Nat) ≤ ((0 + a0.length) + 1)))) && ((tt 1 (decide (((0 + ((0 + a0.length) + 1)) : Nat) ≤ ((0 + a0.length) + 1)))) && (tt 1 (decide (((0 + ((0 + a0.length) + 1)) : Nat) ≤ ((0 + a0.length) + 1)))))) && (((tt 1 (decide (((0 + (0 + a0.length)) : Nat) ≤ (0 + a0.length)))) && (tt 1 (decide (((0 + a0.length) + 1) * 40 ≤ 140737488355328)))) && ((tt 1 (decide ((0 + a0.length) * 40 ≤ 140737488355328))) && (tt 1 (k7 (a0, ()))))))))) then some false else none)
        else
          (bif (!(decide ((((v13 ((sec (0, (0, (0, (0, (0, ()))))) ((sec (0, (0, (0, (0, (0, ()))))) a0 0 (0 + a0.length)) ++ ([(149, (0, (0, (0, (0, ())))))] : List (Int × (Int × KD0)))) 0 ((0 + a0.length) + 1)), ())).length : Nat) : Int) = (((sec (0, (0, (0, (0, (0, ()))))) ((sec (0, (0, (0, (0, (0, ()))))) a0 0 (0 + a0.length)) ++ ([(149, (0, (0, (0, (0, ())))))] : List (Int × (Int × KD0)))) 0 ((0 + a0.length) + 1)).length : Nat) : Int)))) then
            (bif ((k13 ((sec (0, (0, (0, (0, (0, ()))))) ((sec (0, (0, (0, (0, (0, ()))))) a0 0 (0 + a0.length)) ++ ([(149, (0, (0, (0, (0, ())))))] : List (Int × (Int × KD0)))) 0 ((0 + a0.length) + 1)), ())) && ((k13 (a0, ())) && ((k7 ((sec (0, (0, (0, (0, (0, ()))))) ((sec (0, (0, (0, (0, (0, ()))))) a0 0 (0 + a0.length)) ++ ([(149, (0, (0, (0, (0, ())))))] : List (Int × (Int × KD0)))) 0 ((0 + a0.length) + 1)), ())) && (((tt 1 (decide (((0 + ((0 + a0.length) + 1)) : Nat) ≤ ((0 + a0.length) + 1)))) && ((tt 1 (decide (((0 + ((0 + a0.length) + 1)) : Nat) ≤ ((0 + a0.length) + 1)))) && (tt 1 (decide (((0 + ((0 + a0.length) + 1)) : Nat) ≤ ((0 + a0.length) + 1)))))) && (((tt 1 (decide (((0 + (0 + a0.length)) : Nat) ≤ (0 + a0.length)))) && (tt 1 (decide (((0 + a0.length) + 1) * 40 ≤ 140737488355328)))) && ((tt 1 (decide ((0 + a0.length) * 40 ≤ 140737488355328))) && (tt 1 (k7 (a0, ()))))))))) then some false else none)
          else
            (bif ((v13 ((sec (0, (0, (0, (0, (0, ()))))) ((sec (0, (0, (0, (0, (0, ()))))) a0 0 (0 + a0.length)) ++ ([(149, (0, (0, (0, (0, ())))))] : List (Int × (Int × KD0)))) 0 ((0 + a0.length) + 1)), ())).getD (Int.toNat ((a0.length : Nat) : Int)) false) then
              (bif (((decide (0 ≤ ((a0.length : Nat) : Int))) && (decide (((a0.length : Nat) : Int) < (((v13 ((sec (0, (0, (0, (0, (0, ()))))) ((sec (0, (0, (0, (0, (0, ()))))) a0 0 (0 + a0.length)) ++ ([(149, (0, (0, (0, (0, ())))))] : List (Int × (Int × KD0)))) 0 ((0 + a0.length) + 1)), ())).length : Nat) : Int)))) && ((k13 ((sec (0, (0, (0, (0, (0, ()))))) ((sec (0, (0, (0, (0, (0, ()))))) a0 0 (0 + a0.length)) ++ ([(149, (0, (0, (0, (0, ())))))] : List (Int × (Int × KD0)))) 0 ((0 + a0.length) + 1)), ())) && ((k13 (a0, ())) && ((k7 ((sec (0, (0, (0, (0, (0, ()))))) ((sec (0, (0, (0, (0, (0, ()))))) a0 0 (0 + a0.length)) ++ ([(149, (0, (0, (0, (0, ())))))] : List (Int × (Int × KD0)))) 0 ((0 + a0.length) + 1)), ())) && (((tt 1 (decide (((0 + ((0 + a0.length) + 1)) : Nat) ≤ ((0 + a0.length) + 1)))) && ((tt 1 (decide (((0 + ((0 + a0.length) + 1)) : Nat) ≤ ((0 + a0.length) + 1)))) && (tt 1 (decide (((0 + ((0 + a0.length) + 1)) : Nat) ≤ ((0 + a0.length) + 1)))))) && (((tt 1 (decide (((0 + (0 + a0.length)) : Nat) ≤ (0 + a0.length)))) && (tt 1 (decide (((0 + a0.length) + 1) * 40 ≤ 140737488355328)))) && ((tt 1 (decide ((0 + a0.length) * 40 ≤ 140737488355328))) && (tt 1 (k7 (a0, ())))))))))) then some false else none)
            else
              (bif (isL (lv0 (a0, (v13 (a0, ())), (v13 ((sec (0, (0, (0, (0, (0, ()))))) ((sec (0, (0, (0, (0, (0, ()))))) a0 0 (0 + a0.length)) ++ ([(149, (0, (0, (0, (0, ())))))] : List (Int × (Int × KD0)))) 0 ((0 + a0.length) + 1)), ())), 0, ()))) then
                (bif ((k12 (())) && ((lk0 (a0, (v13 (a0, ())), (v13 ((sec (0, (0, (0, (0, (0, ()))))) ((sec (0, (0, (0, (0, (0, ()))))) a0 0 (0 + a0.length)) ++ ([(149, (0, (0, (0, (0, ())))))] : List (Int × (Int × KD0)))) 0 ((0 + a0.length) + 1)), ())), 0, ())) && (tt 1 (((decide (0 ≤ ((a0.length : Nat) : Int))) && (decide (((a0.length : Nat) : Int) < (((v13 ((sec (0, (0, (0, (0, (0, ()))))) ((sec (0, (0, (0, (0, (0, ()))))) a0 0 (0 + a0.length)) ++ ([(149, (0, (0, (0, (0, ())))))] : List (Int × (Int × KD0)))) 0 ((0 + a0.length) + 1)), ())).length : Nat) : Int)))) && ((k13 ((sec (0, (0, (0, (0, (0, ()))))) ((sec (0, (0, (0, (0, (0, ()))))) a0 0 (0 + a0.length)) ++ ([(149, (0, (0, (0, (0, ())))))] : List (Int × (Int × KD0)))) 0 ((0 + a0.length) + 1)), ())) && ((k13 (a0, ())) && ((k7 ((sec (0, (0, (0, (0, (0, ()))))) ((sec (0, (0, (0, (0, (0, ()))))) a0 0 (0 + a0.length)) ++ ([(149, (0, (0, (0, (0, ())))))] : List (Int × (Int × KD0)))) 0 ((0 + a0.length) + 1)), ())) && (((tt 1 (decide (((0 + ((0 + a0.length) + 1)) : Nat) ≤ ((0 + a0.length) + 1)))) && ((tt 1 (decide (((0 + ((0 + a0.length) + 1)) : Nat) ≤ ((0 + a0.length) + 1)))) && (tt 1 (decide (((0 + ((0 + a0.length) + 1)) : Nat) ≤ ((0 + a0.length) + 1)))))) && (((tt 1 (decide (((0 + (0 + a0.length)) : Nat) ≤ (0 + a0.length)))) && (tt 1 (decide (((0 + a0.length) + 1) * 40 ≤ 140737488355328)))) && ((tt 1 (decide ((0 + a0.length) * 40 ≤ 140737488355328))) && (tt 1 (k7 (a0, ()))))))))))))) then some (v12 (())) else none)
              else
                (bif ((lk0 (a0, (v13 (a0, ())), (v13 ((sec (0, (0, (0, (0, (0, ()))))) ((sec (0, (0, (0, (0, (0, ()))))) a0 0 (0 + a0.length)) ++ ([(149, (0, (0, (0, (0, ())))))] : List (Int × (Int × KD0)))) 0 ((0 + a0.length) + 1)), ())), 0, ())) && (tt 1 (((decide (0 ≤ ((a0.length : Nat) : Int))) && (decide (((a0.length : Nat) : Int) < (((v13 ((sec (0, (0, (0, (0, (0, ()))))) ((sec (0, (0, (0, (0, (0, ()))))) a0 0 (0 + a0.length)) ++ ([(149, (0, (0, (0, (0, ())))))] : List (Int × (Int × KD0)))) 0 ((0 + a0.length) + 1)), ())).length : Nat) : Int)))) && ((k13 ((sec (0, (0, (0, (0, (0, ()))))) ((sec (0, (0, (0, (0, (0, ()))))) a0 0 (0 + a0.length)) ++ ([(149, (0, (0, (0, (0, ())))))] : List (Int × (Int × KD0)))) 0 ((0 + a0.length) + 1)), ())) && ((k13 (a0, ())) && ((k7 ((sec (0, (0, (0, (0, (0, ()))))) ((sec (0, (0, (0, (0, (0, ()))))) a0 0 (0 + a0.length)) ++ ([(149, (0, (0, (0, (0, ())))))] : List (Int × (Int × KD0)))) 0 ((0 + a0.length) + 1)), ())) && (((tt 1 (decide (((0 + ((0 + a0.length) + 1)) : Nat) ≤ ((0 + a0.length) + 1)))) && ((tt 1 (decide (((0 + ((0 + a0.length) + 1)) : Nat) ≤ ((0 + a0.length) + 1)))) && (tt 1 (decide (((0 + ((0 + a0.length) + 1)) : Nat) ≤ ((0 + a0.length) + 1)))))) && (((tt 1 (decide (((0 + (0 + a0.length)) : Nat) ≤ (0 + a0.length)))) && (tt 1 (decide (((0 + a0.length) + 1) * 40 ≤ 140737488355328)))) && ((tt 1 (decide ((0 + a0.length) * 40 ≤ 140737488355328))) && (tt 1 (k7 (a0, ())))))))))))) then some (getR ((false, ()) : (Bool × Unit)) (lv0 (a0, (v13 (a0, ())), (v13 ((sec (0, (0, (0, (0, (0, ()))))) ((sec (0, (0, (0, (0, (0, ()))))) a0 0 (0 + a0.length)) ++ ([(149, (0, (0, (0, (0, ())))))] : List (Int × (Int × KD0)))) 0 ((0 + a0.length) + 1)), ())), 0, ()))).1 else none))))))))
theorem t6 (v7 : (KD1 × Unit) → (Int × (Int × Unit))) (k7 : (KD1 × Unit) → Bool) (v12 : (Unit) → Bool) (k12 : (Unit) → Bool) (v13 : (KD1 × Unit) → (List Bool)) (k13 : (KD1 × Unit) → Bool) (lv0 : (KD1 × (List Bool) × (List Bool) × Int × Unit) → ((Unit) ⊕ (Bool × Unit))) (lk0 : (KD1 × (List Bool) × (List Bool) × Int × Unit) → Bool) (a0 : KD1) : fnT (CxL Try.Θ (kOf [(7, sm [(.vsl KT4)] (.tup (.int .i64) KT6) v7 k7), (12, sm [] .bool v12 k12), (13, sm [(.vsl KT4)] (.vsl .bool) v13 k13)]) (lOf [(0, orc 77 27 0 hd6_0 ys6_0 lv0 lk0)])) Try.f6 .bool [⟨(.vsl KT4), a0⟩] = S6 v7 k7 v12 k12 v13 k13 lv0 lk0 a0 := by kernel_rfl
end Go.Proofs
