import Derived.Test.YtibiflonpfehiaaMP
namespace Go.Proofs
open Go.GX
set_option linter.unusedVariables false
set_option linter.unusedSimpArgs false
/-! ## Told values -/
theorem Tv.ite {α : Type} {p : Bool} {a b : Option α} {c d : α} (h : a = some c) (k : b = some d) : (bif p then a else b) = some (bif p then c else d) := by
  rw [h, k]; cases p <;> rfl
theorem jnV_of {hd : List It} {ys : Ways} {f : XD hd → Option (YD ys)} {x : XD hd} {y : YD ys} (h : f x = some y) : jnV f x = y := by unfold jnV; rw [h]; rfl
theorem jnK_of {hd : List It} {ys : Ways} {f : XD hd → Option (YD ys)} {x : XD hd} {y : YD ys} (h : f x = some y) : jnK f x = true := by unfold jnK; rw [h]; rfl
theorem Tv.g {α : Type} {g : Bool} {x : α} (hg : g = true) : (bif g then some x else none) = some x := by rw [hg]; rfl
def in31 (x : Int) : Bool := decide (x = 0) || (decide (x = 1) || (decide (x = 64) || (decide (x = 65) || (decide (x = 80) || (decide (x = 81) || (decide (x = 160) || (decide (x = 161) || (decide (x = 225) || decide (x = 241)))))))))
theorem F35_e (l : List Int) (x : Int) (hl : l.length ≤ maxLen) : decide (F35 (l, x, ()) ≥ 0) = true ↔ ∃ j, j < l.length ∧ x = l.getD j 0 := by
  have key : ∃ r, E35 (l, x, ()) = some r ∧ (r ≥ 0 ↔ ∃ j, j < l.length ∧ x = l.getD j 0) := by
    show ∃ r, S35 W35_0 Q35_0 l x = some r ∧ _
    unfold S35
    rcases first_bad (fun i => !decide (x = l.getD i 0)) l.length with h | ⟨j, h1, h2, h3⟩
    · have hw := (wh_steps (f := V35_0) (fun i => (l, x, (l.length : Int), (i : Int), ())) l.length (fun i hi => by
        have := h i hi
        rw [V35_in hi hl, if_neg (by simpa using this)])).trans (wh_stop V35_end)
      have e1 : W35_0 (l, x, (l.length : Int), 0, ()) = .inl () := whV_of (hd := hd35_0) (ys := ys35_0) hw
      have e2 : Q35_0 (l, x, (l.length : Int), 0, ()) = true := whK_of (hd := hd35_0) (ys := ys35_0) hw
      rw [e1, e2]
      refine ⟨-1, rfl, fun h' => by omega, fun ⟨j, hj, e⟩ => ?_⟩
      have := h j hj
      simp at this
      exact absurd e (by simpa [List.getD] using this)
    · have h3 : x = l.getD j 0 := by simpa using h3
      have hw := (wh_steps (f := V35_0) (fun i => (l, x, (l.length : Int), (i : Int), ())) j (fun i hi => by
        have := h2 i hi
        rw [V35_in (by omega) hl, if_neg (by simpa using this)])).trans (wh_stop (by rw [V35_in h1 hl, if_pos h3]))
      have e1 : W35_0 (l, x, (l.length : Int), 0, ()) = .inr ((j : Int), ()) := whV_of (hd := hd35_0) (ys := ys35_0) hw
      have e2 : Q35_0 (l, x, (l.length : Int), 0, ()) = true := whK_of (hd := hd35_0) (ys := ys35_0) hw
      rw [e1, e2]
      exact ⟨(j : Int), rfl, fun _ => ⟨j, h1, h3⟩, fun _ => by omega⟩
  obtain ⟨r, h1, h2⟩ := key
  have : F35 (l, x, ()) = r := by show (E35 (l, x, ())).getD _ = r; rw [h1]; rfl
  rw [this, decide_eq_true_eq]
  exact h2
theorem F31_e (x : Int) : F31 (x, ()) = in31 x := by
  have hE : E31 (x, ()) = some (decide (F35 ([0, 1, 64, 65, 80, 81, 160, 161, 225, 241], x, ()) ≥ 0)) := by
    show S31 F24 G24 x = _
    unfold S31
    have hG : G24 ([0, 1, 64, 65, 80, 81, 160, 161, 225, 241], x, ()) = true := G24_t _ x (show ([0, 1, 64, 65, 80, 81, 160, 161, 225, 241] : List Int).length ≤ maxLen by decide)
    rw [hG]
    show some (F24 ([0, 1, 64, 65, 80, 81, 160, 161, 225, 241], x, ())) = _
    congr 1
    show (E24 _).getD _ = _
    show (S24 F35 G35 _ x).getD _ = _
    unfold S24
    have hG : G35 ([0, 1, 64, 65, 80, 81, 160, 161, 225, 241], x, ()) = true := G35_t _ x (show ([0, 1, 64, 65, 80, 81, 160, 161, 225, 241] : List Int).length ≤ maxLen by decide)
    rw [hG]
    rfl
  have : F31 (x, ()) = decide (F35 ([0, 1, 64, 65, 80, 81, 160, 161, 225, 241], x, ()) ≥ 0) := by show (E31 (x, ())).getD _ = _; rw [hE]; rfl
  rw [this, Bool.eq_iff_iff, F35_e _ x (by decide)]
  unfold in31
  simp only [Bool.or_eq_true, decide_eq_true_eq]
  constructor
  · rintro ⟨j, hj, e⟩
    have hj : j < 10 := hj
    match j, hj with
    | 0, _ | 1, _ | 2, _ | 3, _ | 4, _ | 5, _ | 6, _ | 7, _ | 8, _ | 9, _ => simp [List.getD] at e; simp [e]
  · rintro (h | h | h | h | h | h | h | h | h | h)
    · exact ⟨0, by decide, h⟩
    · exact ⟨1, by decide, h⟩
    · exact ⟨2, by decide, h⟩
    · exact ⟨3, by decide, h⟩
    · exact ⟨4, by decide, h⟩
    · exact ⟨5, by decide, h⟩
    · exact ⟨6, by decide, h⟩
    · exact ⟨7, by decide, h⟩
    · exact ⟨8, by decide, h⟩
    · exact ⟨9, by decide, h⟩

def c27 (a0 : In) : Bool :=
  (bif (decide ((ishr .i64 a0.1 8) = 0)) then
    (bif (decide (a0.2.1 ≥ 0)) then
      (bif (decide (a0.2.1 ≤ 10)) then
        (bif (decide (a0.2.2.1 ≥ 0)) then
          (bif (decide (a0.2.2.1 ≤ 10)) then
            (bif (decide ((IntKind.wrap .i64 (IntKind.wrap .i16 a0.2.2.2.1)) = a0.2.2.2.1)) then
              (decide ((IntKind.wrap .i64 (IntKind.wrap .i32 a0.2.2.2.2.1)) = a0.2.2.2.2.1))
            else
              false)
          else
            false)
        else
          false)
      else
        false)
    else
      false)
  else
    false)
def c32 (a0 : In) : Bool :=
  (bif (!(decide ((iand .i64 a0.1 8) = 0))) then
    (decide (a0.2.2.2.2.1 = 0))
  else
    (decide (a0.2.2.1 = 0)))
def c29 (a0 : In) : Bool :=
  (bif (decide (a0.2.1 = 10)) then
    false
  else
    (bif (decide ((iand .i64 a0.1 240) = 208)) then
      (bif (decide (a0.1 = 212)) then
        (bif (decide (a0.2.2.1 = 0)) then
          (bif (decide (a0.2.2.2.1 = 0)) then
            (bif (decide (a0.2.2.2.2.1 = 16)) then
              true
            else
              (bif (decide (a0.2.2.2.2.1 = 32)) then
                true
              else
                (decide (a0.2.2.2.2.1 = 64))))
          else
            false)
        else
          false)
      else
        (bif (decide (a0.1 = 220)) then
          (bif (decide (a0.2.2.1 = 0)) then
            (bif (decide (a0.2.2.2.1 = 0)) then
              (bif (decide (a0.2.2.2.2.1 = 16)) then
                true
              else
                (bif (decide (a0.2.2.2.2.1 = 32)) then
                  true
                else
                  (decide (a0.2.2.2.2.1 = 64))))
            else
              false)
          else
            false)
        else
          (bif (decide (a0.1 = 215)) then
            (bif (decide (a0.2.2.1 = 0)) then
              (bif (decide (a0.2.2.2.1 = 0)) then
                (bif (decide (a0.2.2.2.2.1 = 16)) then
                  true
                else
                  (bif (decide (a0.2.2.2.2.1 = 32)) then
                    true
                  else
                    (decide (a0.2.2.2.2.1 = 64))))
              else
                false)
            else
              false)
          else
            false)))
    else
      (bif (decide ((iand .i64 a0.1 240) = 128)) then
        (bif (decide ((iand .i64 a0.1 8) = 0)) then
          (bif (decide (a0.2.2.1 = 0)) then
            (bif (decide (a0.2.2.2.1 = 0)) then
              (decide (a0.2.2.2.2.1 = 0))
            else
              false)
          else
            false)
        else
          false)
      else
        (bif (decide ((iand .i64 a0.1 240) = 224)) then
          false
        else
          (bif (decide ((iand .i64 a0.1 240) = 240)) then
            false
          else
            (bif (decide ((iand .i64 a0.1 240) = 48)) then
              (bif (c32 a0) then
                (bif (decide ((ishr .i64 a0.2.2.2.1 1) = 0)) then
                  (bif (!(decide ((iand .i64 a0.1 8) = 0))) then
                    true
                  else
                    (!(decide (a0.2.2.2.2.1 = 0))))
                else
                  false)
              else
                false)
            else
              (bif (decide ((iand .i64 a0.1 240) = 144)) then
                (bif (c32 a0) then
                  (bif (decide ((ishr .i64 a0.2.2.2.1 1) = 0)) then
                    (bif (!(decide ((iand .i64 a0.1 8) = 0))) then
                      true
                    else
                      (!(decide (a0.2.2.2.2.1 = 0))))
                  else
                    false)
                else
                  false)
              else
                (bif (decide ((iand .i64 a0.1 240) = 176)) then
                  (bif (!(decide ((iand .i64 a0.1 8) = 0))) then
                    (bif (decide (a0.2.2.2.1 = 8)) then
                      (bif (c32 a0) then
                        (bif (decide (a0.2.2.2.1 = 0)) then
                          true
                        else
                          true)
                      else
                        false)
                    else
                      (bif (decide (a0.2.2.2.1 = 16)) then
                        (bif (c32 a0) then
                          (bif (decide (a0.2.2.2.1 = 0)) then
                            true
                          else
                            true)
                        else
                          false)
                      else
                        (bif (decide (a0.2.2.2.1 = 32)) then
                          (bif (c32 a0) then
                            (bif (decide (a0.2.2.2.1 = 0)) then
                              true
                            else
                              (decide ((iand .i64 a0.1 7) = 7)))
                          else
                            false)
                        else
                          (bif (c32 a0) then
                            (bif (decide (a0.2.2.2.1 = 0)) then
                              true
                            else
                              false)
                          else
                            false))))
                  else
                    (bif (c32 a0) then
                      (bif (decide (a0.2.2.2.1 = 0)) then
                        true
                      else
                        false)
                    else
                      false))
                else
                  (bif (decide ((iand .i64 a0.1 240) = 96)) then
                    (bif (decide ((iand .i64 a0.1 7) = 7)) then
                      (bif (c32 a0) then
                        (bif (decide (a0.2.2.2.1 = 0)) then
                          (bif (!(decide ((iand .i64 a0.1 8) = 0))) then
                            true
                          else
                            (bif (decide (a0.2.2.2.2.1 ≥ 0)) then
                              (decide (a0.2.2.2.2.1 ≤ 63))
                            else
                              false))
                        else
                          false)
                      else
                        false)
                    else
                      (bif (c32 a0) then
                        (bif (decide (a0.2.2.2.1 = 0)) then
                          (bif (!(decide ((iand .i64 a0.1 8) = 0))) then
                            true
                          else
                            (bif (decide (a0.2.2.2.2.1 ≥ 0)) then
                              (decide (a0.2.2.2.2.1 ≤ 31))
                            else
                              false))
                        else
                          false)
                      else
                        false))
                  else
                    (bif (decide ((iand .i64 a0.1 240) = 112)) then
                      (bif (decide ((iand .i64 a0.1 7) = 7)) then
                        (bif (c32 a0) then
                          (bif (decide (a0.2.2.2.1 = 0)) then
                            (bif (!(decide ((iand .i64 a0.1 8) = 0))) then
                              true
                            else
                              (bif (decide (a0.2.2.2.2.1 ≥ 0)) then
                                (decide (a0.2.2.2.2.1 ≤ 63))
                              else
                                false))
                          else
                            false)
                        else
                          false)
                      else
                        (bif (c32 a0) then
                          (bif (decide (a0.2.2.2.1 = 0)) then
                            (bif (!(decide ((iand .i64 a0.1 8) = 0))) then
                              true
                            else
                              (bif (decide (a0.2.2.2.2.1 ≥ 0)) then
                                (decide (a0.2.2.2.2.1 ≤ 31))
                              else
                                false))
                          else
                            false)
                        else
                          false))
                    else
                      (bif (decide ((iand .i64 a0.1 240) = 192)) then
                        (bif (decide ((iand .i64 a0.1 7) = 7)) then
                          (bif (c32 a0) then
                            (bif (decide (a0.2.2.2.1 = 0)) then
                              (bif (!(decide ((iand .i64 a0.1 8) = 0))) then
                                true
                              else
                                (bif (decide (a0.2.2.2.2.1 ≥ 0)) then
                                  (decide (a0.2.2.2.2.1 ≤ 63))
                                else
                                  false))
                            else
                              false)
                          else
                            false)
                        else
                          (bif (c32 a0) then
                            (bif (decide (a0.2.2.2.1 = 0)) then
                              (bif (!(decide ((iand .i64 a0.1 8) = 0))) then
                                true
                              else
                                (bif (decide (a0.2.2.2.2.1 ≥ 0)) then
                                  (decide (a0.2.2.2.2.1 ≤ 31))
                                else
                                  false))
                            else
                              false)
                          else
                            false))
                      else
                        (bif (c32 a0) then
                          (decide (a0.2.2.2.1 = 0))
                        else
                          false))))))))))))
def c30 (a0 : In) : Int :=
  (bif (decide ((iand .i64 a0.1 7) = 0)) then
    0
  else
    (bif (decide ((iand .i64 a0.1 7) > 3)) then
      0
    else
      (bif (decide ((iand .i64 a0.1 24) = 24)) then
        8
      else
        (ishr .i64 4 (IntKind.wrap .i64 (Int.tdiv (iand .i64 a0.1 24) 8))))))
def c17 (a0 : In) : Bool :=
  (bif (decide (a0.1 = 24)) then
    (bif (c27 a0) then
      (bif (decide (a0.2.1 < 10)) then
        (bif (decide (a0.2.2.2.1 = 0)) then
          (bif (decide (a0.2.2.1 = 0)) then
            true
          else
            (bif (decide (a0.2.2.1 = 1)) then
              (decide (a0.2.2.2.2.1 ≥ 0))
            else
              false))
        else
          false)
      else
        false)
    else
      false)
  else
    (bif (!(c27 a0)) then
      false
    else
      (bif (decide ((iand .i64 a0.1 7) = 4)) then
        (c29 a0)
      else
        (bif (decide ((iand .i64 a0.1 7) = 7)) then
          (c29 a0)
        else
          (bif (decide ((iand .i64 a0.1 7) = 1)) then
            (bif (decide (a0.2.2.2.2.1 = 0)) then
              (bif (decide (a0.2.1 < 10)) then
                (bif (decide ((ishr .i64 a0.1 5) = 3)) then
                  true
                else
                  (bif (decide ((ishr .i64 a0.1 5) = 4)) then
                    (decide ((c30 a0) < 8))
                  else
                    false))
              else
                false)
            else
              false)
          else
            (bif (decide ((iand .i64 a0.1 7) = 2)) then
              (bif (decide ((ishr .i64 a0.1 5) = 3)) then
                (decide (a0.2.2.1 = 0))
              else
                false)
            else
              (bif (decide ((iand .i64 a0.1 7) = 3)) then
                (bif (decide ((ishr .i64 a0.1 5) = 3)) then
                  (decide (a0.2.2.2.2.1 = 0))
                else
                  (bif (decide (a0.1 = 195)) then
                    (bif (in31 a0.2.2.2.2.1) then
                      (bif (decide (a0.2.2.2.2.1 = 241)) then
                        true
                      else
                        (bif (decide ((iand .i64 a0.2.2.2.2.1 1) = 0)) then
                          true
                        else
                          (decide (a0.2.2.1 < 10))))
                    else
                      false)
                  else
                    (bif (decide (a0.1 = 219)) then
                      (bif (in31 a0.2.2.2.2.1) then
                        (bif (decide (a0.2.2.2.2.1 = 241)) then
                          true
                        else
                          (bif (decide ((iand .i64 a0.2.2.2.2.1 1) = 0)) then
                            true
                          else
                            (decide (a0.2.2.1 < 10))))
                      else
                        false)
                    else
                      false)))
              else
                (bif (decide ((iand .i64 a0.1 7) = 5)) then
                  (bif (decide (a0.1 = 5)) then
                    (bif (decide (a0.2.1 = 0)) then
                      (bif (decide (a0.2.2.1 = 0)) then
                        (decide (a0.2.2.2.2.1 = 0))
                      else
                        false)
                    else
                      false)
                  else
                    (bif (decide (a0.1 = 133)) then
                      (bif (decide (a0.2.1 = 0)) then
                        (bif (decide (a0.2.2.1 = 0)) then
                          (decide (a0.2.2.2.1 = 0))
                        else
                          false)
                      else
                        false)
                    else
                      (bif (decide (a0.1 = 149)) then
                        ((decide (a0.1 = 149)) && ((decide (a0.2.1 = 0)) && ((decide (a0.2.2.1 = 0)) && ((decide (a0.2.2.2.1 = 0)) && (tt 1 (decide (a0.2.2.2.2.1 = 0)))))))
                      else
                        (bif (decide ((ishr .i64 a0.1 4) > 0)) then
                          (bif (decide ((ishr .i64 a0.1 4) < 14)) then
                            (bif (!(decide ((ishr .i64 a0.1 4) = 8))) then
                              (bif (!(decide ((ishr .i64 a0.1 4) = 9))) then
                                (c32 a0)
                              else
                                false)
                            else
                              false)
                          else
                            false)
                        else
                          false))))
                else
                  (bif (decide ((iand .i64 a0.1 7) = 6)) then
                    (bif (decide (a0.1 = 5)) then
                      (bif (decide (a0.2.1 = 0)) then
                        (bif (decide (a0.2.2.1 = 0)) then
                          (decide (a0.2.2.2.2.1 = 0))
                        else
                          false)
                      else
                        false)
                    else
                      (bif (decide (a0.1 = 133)) then
                        (bif (decide (a0.2.1 = 0)) then
                          (bif (decide (a0.2.2.1 = 0)) then
                            (decide (a0.2.2.2.1 = 0))
                          else
                            false)
                        else
                          false)
                      else
                        (bif (decide (a0.1 = 149)) then
                          ((decide (a0.1 = 149)) && ((decide (a0.2.1 = 0)) && ((decide (a0.2.2.1 = 0)) && ((decide (a0.2.2.2.1 = 0)) && (tt 1 (decide (a0.2.2.2.2.1 = 0)))))))
                        else
                          (bif (decide ((ishr .i64 a0.1 4) > 0)) then
                            (bif (decide ((ishr .i64 a0.1 4) < 14)) then
                              (bif (!(decide ((ishr .i64 a0.1 4) = 8))) then
                                (bif (!(decide ((ishr .i64 a0.1 4) = 9))) then
                                  (c32 a0)
                                else
                                  false)
                              else
                                false)
                            else
                              false)
                          else
                            false))))
                  else
                    false)))))))))
def c37 (a0 : In) : Int :=
  (bif (decide ((iand .i64 a0.1 7) = 1)) then
    a0.2.1
  else
    (bif (decide ((iand .i64 a0.1 7) = 4)) then
      a0.2.1
    else
      (bif (decide ((iand .i64 a0.1 7) = 7)) then
        a0.2.1
      else
        (bif (decide ((iand .i64 a0.1 7) = 3)) then
          (bif (decide (a0.1 = 195)) then
            (bif (decide (a0.2.2.2.2.1 = 241)) then
              0
            else
              (bif (decide ((Int.tmod a0.2.2.2.2.1 2) = 1)) then
                a0.2.2.1
              else
                (-1)))
          else
            (bif (decide (a0.1 = 219)) then
              (bif (decide (a0.2.2.2.2.1 = 241)) then
                0
              else
                (bif (decide ((Int.tmod a0.2.2.2.2.1 2) = 1)) then
                  a0.2.2.1
                else
                  (-1)))
            else
              (-1)))
        else
          (-1)))))
def c33c (x1 : Int) (x2 : In) : Bool :=
  (bif (decide (x2.2.2.2.2.1 ≥ 0)) then
    (decide (x2.2.2.2.2.1 ≤ x1))
  else
    false)
noncomputable def c33b (x1 : In) : Bool :=
  (bif (decide ((iand .i64 x1.1 7) = 4)) then
    (bif (decide ((iand .i64 x1.1 8) = 0)) then
      (bif (decide ((iand .i64 x1.1 240) = 96)) then
        (bif (decide ((iand .i64 x1.1 7) = 7)) then
          (c33c 63 x1)
        else
          (c33c 31 x1))
      else
        (bif (decide ((iand .i64 x1.1 240) = 112)) then
          (bif (decide ((iand .i64 x1.1 7) = 7)) then
            (c33c 63 x1)
          else
            (c33c 31 x1))
        else
          (bif (decide ((iand .i64 x1.1 240) = 192)) then
            (bif (decide ((iand .i64 x1.1 7) = 7)) then
              (c33c 63 x1)
            else
              (c33c 31 x1))
          else
            (bif (decide ((iand .i64 x1.1 240) = 48)) then
              (!(decide (x1.2.2.2.2.1 = 0)))
            else
              (bif (decide ((iand .i64 x1.1 240) = 144)) then
                (!(decide (x1.2.2.2.2.1 = 0)))
              else
                true)))))
    else
      true)
  else
    (bif (decide ((iand .i64 x1.1 7) = 7)) then
      (bif (decide ((iand .i64 x1.1 8) = 0)) then
        (bif (decide ((iand .i64 x1.1 240) = 96)) then
          (bif (decide ((iand .i64 x1.1 7) = 7)) then
            (c33c 63 x1)
          else
            (c33c 31 x1))
        else
          (bif (decide ((iand .i64 x1.1 240) = 112)) then
            (bif (decide ((iand .i64 x1.1 7) = 7)) then
              (c33c 63 x1)
            else
              (c33c 31 x1))
          else
            (bif (decide ((iand .i64 x1.1 240) = 192)) then
              (bif (decide ((iand .i64 x1.1 7) = 7)) then
                (c33c 63 x1)
              else
                (c33c 31 x1))
            else
              (bif (decide ((iand .i64 x1.1 240) = 48)) then
                (!(decide (x1.2.2.2.2.1 = 0)))
              else
                (bif (decide ((iand .i64 x1.1 240) = 144)) then
                  (!(decide (x1.2.2.2.2.1 = 0)))
                else
                  true)))))
      else
        true)
    else
      true))
noncomputable def c33 (a0 : In) : Bool :=
  (bif (decide (a0.1 = 24)) then
    (bif (decide (a0.2.1 ≥ 0)) then
      (bif (decide (a0.2.1 ≤ 9)) then
        (bif (decide (a0.2.2.2.1 = 0)) then
          (bif (decide (a0.2.2.1 = 0)) then
            (bif (decide (a0.2.2.2.2.1 ≥ (-2147483648))) then
              (decide (a0.2.2.2.2.1 ≤ 2147483647))
            else
              false)
          else
            (bif (decide (a0.2.2.1 = 1)) then
              (bif (decide (a0.2.2.2.2.1 ≥ 0)) then
                (bif (decide (a0.2.2.2.2.1 ≥ (-2147483648))) then
                  (decide (a0.2.2.2.2.1 ≤ 2147483647))
                else
                  false)
              else
                false)
            else
              false))
        else
          false)
      else
        false)
    else
      false)
  else
    (bif (!(c36 a0)) then
      false
    else
      (bif (decide ((c37 a0) = 10)) then
        false
      else
        (c33b a0))))
theorem F27_e (i : In) : F27 (i, ()) = c27 i := by
  have : E27 (i, ()) = some (c27 i) := by
    show S27 i = _
    unfold S27 c27
    repeat (first | exact rfl | apply Tv.ite)
  show (E27 (i, ())).getD _ = _
  rw [this]; rfl
theorem F32_e (i : In) : F32 (i, ()) = c32 i := by
  have : E32 (i, ()) = some (c32 i) := by
    show S32 i = _
    unfold S32 c32
    repeat (first | exact rfl | apply Tv.ite)
  show (E32 (i, ())).getD _ = _
  rw [this]; rfl
theorem F28_e (i : In) : F28 (i, ()) = iand .i64 i.1 7 := rfl
theorem F29_e (i : In) : F29 (i, ()) = c29 i := by
  have : E29 (i, ()) = some (c29 i) := by
    show S29 F28 G28 F32 G32 i = _
    unfold S29 c29
    simp only [G28_t, G32_t, F28_e, F32_e]
    repeat (first | exact rfl | apply Tv.ite)
  show (E29 (i, ())).getD _ = _
  rw [this]; rfl
theorem F30_e (i : In) : F30 (i, ()) = c30 i := by
  have : E30 (i, ()) = some (c30 i) := by
    show S30 F28 G28 i = _
    unfold S30 c30
    have h := iand24 i.1
    have h2 : 0 ≤ Int.tdiv (iand .i64 i.1 24) 8 := Int.tdiv_nonneg h.1 (by decide)
    have h3 : Int.tdiv (iand .i64 i.1 24) 8 ≤ 24 := by rw [Int.tdiv_eq_ediv_of_nonneg h.1]; omega
    have h4 : decide (0 ≤ IntKind.wrap .i64 (Int.tdiv (iand .i64 i.1 24) 8)) = true := by rw [wi64 (by omega)]; exact decide_eq_true h2
    rw [h4]
    simp only [G28_t, F28_e]
    repeat (first | exact rfl | apply Tv.ite)
  show (E30 (i, ())).getD _ = _
  rw [this]; rfl
theorem one_c (i : In) : one i = c17 i := by
  have : E17 (i, ()) = some (c17 i) := by
    show S17 F23 G23 F27 G27 F28 G28 F29 G29 F30 G30 F31 G31 F32 G32 i = _
    unfold S17 c17
    simp only [G23_t, G27_t, G28_t, G29_t, G30_t, G31_t, G32_t, F23_e, F27_e, F28_e, F29_e, F30_e, F31_e, F32_e]
    repeat (first | exact rfl | apply Tv.ite)
  show (E17 (i, ())).getD _ = _
  rw [this]; rfl
theorem F37_e (i : In) : F37 (i, ()) = c37 i ∧ G37 (i, ()) = true := by
  have : E37 (i, ()) = some (c37 i) := by
    show S37 i = _
    unfold S37 c37
    repeat (first | exact rfl | apply Tv.ite)
  exact ofE this
theorem E33_e (i : In) : E33 (i, ()) = some (c33 i) := by
  show S33 F36 G36 F37 G37 W33_1000015 Q33_1000015 W33_1000006 Q33_1000006 i = _
  have j1 : ∀ m, V33_1000015 ((), m, i, ()) = some (c33c m i, ()) := by
    intro m
    unfold V33_1000015 R33_1000015 c33c
    dsimp only
    generalize decide (i.2.2.2.2.1 ≥ 0) = p
    cases p <;> rfl
  have w1 : ∀ m, W33_1000015 ((), m, i, ()) = (c33c m i, ()) ∧ Q33_1000015 ((), m, i, ()) = true := by
    intro m
    constructor
    · exact jnV_of (hd := hd33_1000015) (ys := ys33_1000015) (j1 m)
    · exact jnK_of (hd := hd33_1000015) (ys := ys33_1000015) (j1 m)
  have j2 : V33_1000006 ((), i, ()) = some (c33b i, ()) := by
    unfold V33_1000006 R33_1000006 c33b
    dsimp only
    rw [(w1 63).1, (w1 63).2, (w1 31).1, (w1 31).2]
    generalize decide (iand .i64 i.1 7 = 4) = p1
    generalize decide (iand .i64 i.1 7 = 7) = p2
    generalize decide (iand .i64 i.1 8 = 0) = p3
    generalize decide (iand .i64 i.1 240 = 96) = p4
    generalize decide (iand .i64 i.1 240 = 112) = p5
    generalize decide (iand .i64 i.1 240 = 192) = p6
    generalize decide (iand .i64 i.1 240 = 48) = p7
    generalize decide (iand .i64 i.1 240 = 144) = p8
    cases p1 <;> cases p2 <;> cases p3 <;> cases p4 <;> cases p5 <;> cases p6 <;> cases p7 <;> cases p8 <;> rfl
  have w2 : W33_1000006 ((), i, ()) = (c33b i, ()) ∧ Q33_1000006 ((), i, ()) = true := by
    constructor
    · exact jnV_of (hd := hd33_1000006) (ys := ys33_1000006) j2
    · exact jnK_of (hd := hd33_1000006) (ys := ys33_1000006) j2
  obtain ⟨t, a1, a2, a3, a4⟩ := Ts.F (J36 i)
  have a1 : F36 (i, ()) = t := a1
  have a2 : G36 (i, ()) = true := a2
  unfold S33 c33
  rw [a1, a2, a4, (F37_e i).1, (F37_e i).2, w2.1, w2.2]
  repeat (first | exact rfl | apply Tv.ite)

end Go.Proofs
