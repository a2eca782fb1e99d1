import Derived.Test.YtlakcjlgjmeefaaGreatNF
namespace Go.Proofs
open Go.GX
set_option linter.unusedVariables false
set_option linter.unusedSimpArgs false
def exV (s : KD6) : Int := bif decide ((s.1.getD 0 dR).1 = 0) then 60 else bif decide ((s.1.getD 0 dR).1 = 1) then (bif decide (((s.2.2.2.1.length : Nat) : Int) > 0) then 67 else 0) else 63
theorem E62_eq (s : KD6) (r) : E62 ((s, r), ()) = some (exV s) := by
  show S62 (s, r) = _
  unfold S62 exV
  cases decide ((s.1.getD 0 dR).1 = 0) <;> cases decide ((s.1.getD 0 dR).1 = 1) <;> cases decide (((s.2.2.2.1.length : Nat) : Int) > 0) <;> rfl
theorem F62_e (s : KD6) (r) : F62 ((s, r), ()) = exV s ∧ G62 ((s, r), ()) = true := ofE (E62_eq s r)
theorem E26_eq (s : KD6) : E26 ((s, ([], ([xI], (0, ())))), ()) = some ([], exV s, ()) := by
  have h62 := F62_e s ([], ([xI], (0, ())))
  have h54 : F54 (xI, ()) = false := rfl
  have h46 : F46 (xI, ()) = 5 := rfl
  have g54 : G54 (xI, ()) = true := rfl
  have g46 : G46 (xI, ()) = true := rfl
  show S26 F46 G46 F47 G47 F54 G54 F55 G55 F56 G56 F57 G57 F58 G58 F59 G59 F60 G60 F61 G61 F62 G62 F63 G63 (s, ([], ([xI], (0, ())))) = _
  unfold S26
  have e : ∀ d, List.getD [xI] (Int.toNat 0) d = xI := fun _ => rfl
  simp only [e, h54, h46, g54, g46, h62.1, h62.2]
  rfl
theorem F26_e (s : KD6) : F26 ((s, ([], ([xI], (0, ())))), ()) = ([], exV s, ()) ∧ G26 ((s, ([], ([xI], (0, ())))), ()) = true := ofE (E26_eq s)
theorem E13_eq (s : KD6) : E13 (s, [], [xI], 0, ()) = some ([], [], exV s, ()) := by
  have h26 := F26_e s
  have h16 : F16 ([xI], ()) = (0, 0, ()) := rfl
  have g16 : G16 ([xI], ()) = true := by show okP [xI] = true; unfold okP; simp
  have h34 : F34 ([xI], ()) = [true] := rfl
  have g34 : G34 ([xI], ()) = true := by show okP [xI] = true; unfold okP; simp
  have hw : wh V13_0 ([], [], [], 0, 0, ()) = some ([], [], ()) := wh_stop rfl
  have hV : W13_0 ([], [], [], 0, 0, ()) = ([], [], ()) := whV_of hw
  have hQ : Q13_0 ([], [], [], 0, 0, ()) = true := whK_of hw
  show S13 F16 G16 F26 G26 F34 G34 F35 G35 W13_0 Q13_0 s [] [xI] 0 = _
  unfold S13
  simp only [h16, g16, h34, g34, h26.1, h26.2]
  by_cases h : exV s = 0
  · rw [h]
    show (bif _ && (_ && (Q13_0 ([], [], [], 0, 0, ()) && _)) then _ else none) = _
    simp only [List.length_nil, Int.ofNat_zero, Int.natCast_zero, hV, hQ]
    rfl
  · rw [decide_eq_false h]
    rfl
theorem F13_e (s : KD6) : F13 (s, [], [xI], 0, ()) = ([], [], exV s, ()) ∧ G13 (s, [], [xI], 0, ()) = true := ofE (E13_eq s)
end Go.Proofs
