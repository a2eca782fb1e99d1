import Derived.Test.YtibiflonpfehiaaMT
namespace Go.Proofs
open Go.GX
set_option linter.unusedVariables false
set_option linter.unusedSimpArgs false
/-! ## The second slot -/
theorem one24 {i : In} (h : i.1 = 24) (ho : one i = true) : (0 ≤ i.2.1 ∧ i.2.1 ≤ 9) ∧ (i.2.2.1 = 0 ∨ i.2.2.1 = 1) ∧ i.2.2.2.1 = 0 ∧ is32 i.2.2.2.2.1 = true := by
  rw [one_c, one_ref] at ho
  unfold c33 at ho
  rw [decide_eq_true h] at ho
  simp only [cond_iff, decide_eq_true_eq, decide_eq_false_iff_not, true_and, Bool.true_eq_false, false_and, or_false, Bool.false_eq_true, and_false] at ho
  unfold is32
  simp only [Bool.and_eq_true, decide_eq_true_eq]
  omega
theorem F41_r (i j : In) : (0 ≤ F41 (i, j, ()) ∧ F41 (i, j, ()) < 18446744073709551616) ∧ G41 (i, j, ()) = true := ⟨inR_wrap _, rfl⟩
theorem sec2_iff {i j : In} (hs : i.2.2.1 = 0 ∨ i.2.2.1 = 1) : sec2 i j = true ↔ j.1 = 0 ∧ j.2.1 = 0 ∧ j.2.2.1 = 0 ∧ j.2.2.2.1 = 0 ∧ is32 j.2.2.2.2.1 = true ∧ (i.2.2.1 = 0 ∨ (i.2.2.1 = 1 ∧ j.2.2.2.2.1 = 0)) := by
  unfold sec2 is32
  simp only [Bool.and_eq_true, Bool.or_eq_true, decide_eq_true_eq, tt_eq, wr32]
  omega
abbrev LR := List UInt8 × Int × Int × Unit
def TL (o : Option LR) (c : Bool) : Prop := ∃ a b e, o = some (a, b, e, ()) ∧ (decide (e = 0)) = c
theorem TL.ite {p : Bool} {a b : Option LR} {c d : Bool} (h : p = true → TL a c) (k : p = false → TL b d) : TL (bif p then a else b) (bif p then c else d) := by
  cases p
  · exact k rfl
  · exact h rfl
theorem TL.bad {g : Bool} (hg : g = true) : TL (bif g then some ([], 0, 31, ()) else none) false := ⟨[], 0, 31, by rw [hg]; rfl, rfl⟩
theorem TL.ok {g : Bool} {t : List UInt8} (hg : g = true) : TL (bif g then some (t, 2, 0, ()) else none) true := ⟨t, 2, 0, by rw [hg]; rfl, rfl⟩
theorem J34b {l : List In} {k : Nat} (hk : k + 1 < l.length) (hl : l.length ≤ 4096) (hs : (l.getD k z0).2.2.1 = 0 ∨ (l.getD k z0).2.2.1 = 1) :
    TL (V34_1000012 (l, (k : Int), (), l.getD k z0, ())) (sec2 (l.getD k z0) (l.getD (k + 1) z0)) := by
  have e1 : IntKind.wrap .i64 ((k : Int) + 1) = ((k + 1 : Nat) : Int) := by rw [wi64 (by omega)]; omega
  obtain ⟨d, a1, a2, a3, a4⟩ := F38_ex (s := [114]) (by simp) (by simp) (l.getD k z0).2.1
  obtain ⟨t, b1, b2, b3, b4⟩ := F42_ex (l.getD k z0).2.2.2.2.1
  obtain ⟨u, c1, c2, c3, c4⟩ := F40_ex (F41_r (l.getD k z0) (l.getD (k + 1) z0)).1
  have c5 := (F41_r (l.getD k z0) (l.getD (k + 1) z0)).2
  have hq := sec2_iff (j := l.getD (k + 1) z0) hs
  have key : TL (V34_1000012 (l, (k : Int), (), l.getD k z0, ())) (bif (!(decide ((l.getD (k + 1) z0).1 = 0))) then false else (bif (!(decide ((l.getD (k + 1) z0).2.1 = 0))) then false else (bif (!(decide ((l.getD (k + 1) z0).2.2.1 = 0))) then false else
      (bif (!(decide ((l.getD (k + 1) z0).2.2.2.1 = 0))) then false else (bif (!(is32 (l.getD (k + 1) z0).2.2.2.2.1)) then false else (bif (decide ((l.getD k z0).2.2.1 = 0)) then true else (bif (decide ((l.getD k z0).2.2.1 = 1)) then (bif (decide ((l.getD (k + 1) z0).2.2.2.2.1 = 0)) then true else false) else false))))))) := by
    unfold V34_1000012 R34_1000012
    dsimp only
    rw [e1, show Int.toNat ((k + 1 : Nat) : Int) = k + 1 by omega, a1, a2, b1, b2, c1, c2, c5, decide_eq_true (show (0 : Int) ≤ ((k + 1 : Nat) : Int) by omega), decide_eq_true (show ((k + 1 : Nat) : Int) < ((l.length : Nat) : Int) by omega)]
    simp only [(F39_e _).1, (F39_e _).2]
    repeat' (first | refine TL.bad ?_ | refine TL.ok ?_ | refine TL.ite (fun _ => ?_) (fun _ => ?_))
    all_goals (first | rfl | (simp only [tt_eq, Bool.and_eq_true, decide_eq_true_eq, true_and, and_true, List.length_append, List.length_cons, List.length_nil]; omega))
  have : (bif (!(decide ((l.getD (k + 1) z0).1 = 0))) then false else (bif (!(decide ((l.getD (k + 1) z0).2.1 = 0))) then false else (bif (!(decide ((l.getD (k + 1) z0).2.2.1 = 0))) then false else
      (bif (!(decide ((l.getD (k + 1) z0).2.2.2.1 = 0))) then false else (bif (!(is32 (l.getD (k + 1) z0).2.2.2.2.1)) then false else (bif (decide ((l.getD k z0).2.2.1 = 0)) then true else (bif (decide ((l.getD k z0).2.2.1 = 1)) then (bif (decide ((l.getD (k + 1) z0).2.2.2.2.1 = 0)) then true else false) else false))))))) = sec2 (l.getD k z0) (l.getD (k + 1) z0) := by
    rw [Bool.eq_iff_iff, hq]
    generalize is32 (l.getD (k + 1) z0).2.2.2.2.1 = q
    cases q
    · simp only [cond_iff, decide_eq_true_eq, decide_eq_false_iff_not, Bool.not_eq_true', Bool.not_eq_false', Bool.false_eq_true, Bool.true_eq_false, and_false, or_false, false_and, false_or, and_true, true_and]
    · simp only [cond_iff, decide_eq_true_eq, decide_eq_false_iff_not, Bool.not_eq_true', Bool.not_eq_false', Bool.false_eq_true, Bool.true_eq_false, and_false, or_false, false_and, false_or, and_true, true_and]
      omega
  rw [this] at key
  exact key
theorem F34_ex {l : List In} {k : Nat} (hk : k < l.length) (hl : l.length ≤ 4096) (h : (l.getD k z0).1 = 24) (ho : one (l.getD k z0) = true) :
    ∃ a b e, F34 (l, (k : Int), ()) = (a, b, e, ()) ∧ G34 (l, (k : Int), ()) = true ∧ decide (e = 0) = (decide (k + 1 < l.length) && sec2 (l.getD k z0) (l.getD (k + 1) z0)) := by
  obtain ⟨hd, hs, hoff, him⟩ := one24 h ho
  have e1 : IntKind.wrap .i64 ((k : Int) + 1) = ((k + 1 : Nat) : Int) := by rw [wi64 (by omega)]; omega
  have j1 : TL (V34_1000004 (l, (k : Int), ())) (decide (k + 1 < l.length) && sec2 (l.getD k z0) (l.getD (k + 1) z0)) := by
    unfold V34_1000004 R34_1000004
    dsimp only
    obtain ⟨d, a1, a2, a3, a4⟩ := F38_ex (s := [114]) (by simp) (by simp) (l.getD k z0).2.1
    have hr : isReg (l.getD k z0).2.1 = true := by unfold isReg; rw [decide_eq_true hd.1, decide_eq_true (show (l.getD k z0).2.1 ≤ 10 by omega)]; rfl
    rw [e1, show Int.toNat (k : Int) = k by omega, decide_eq_true h, a1, a2, a4, hr, decide_eq_true hoff, (F39_e _).1, (F39_e _).2, him, decide_eq_true (show (0 : Int) ≤ (k : Int) by omega), decide_eq_true (show (k : Int) < ((l.length : Nat) : Int) by omega)]
    by_cases hk1 : k + 1 < l.length
    · rw [decide_eq_true hk1, decide_eq_false (show ¬ ((k + 1 : Nat) : Int) = ((l.length : Nat) : Int) by omega)]
      obtain ⟨a, b, e, h1, h2⟩ := J34b hk1 hl hs
      have w1 : W34_1000012 (l, (k : Int), (), l.getD k z0, ()) = (a, b, e, ()) := jnV_of (hd := hd34_1000012) (ys := ys34_1000012) h1
      have w2 : Q34_1000012 (l, (k : Int), (), l.getD k z0, ()) = true := jnK_of (hd := hd34_1000012) (ys := ys34_1000012) h1
      rw [w1, w2]
      exact ⟨a, b, e, rfl, h2⟩
    · rw [decide_eq_false hk1, decide_eq_true (show ((k + 1 : Nat) : Int) = ((l.length : Nat) : Int) by omega)]
      exact ⟨[], 0, 31, rfl, rfl⟩
  obtain ⟨a, b, e, h1, h2⟩ := j1
  have w1 : W34_1000004 (l, (k : Int), ()) = (a, b, e, ()) := jnV_of (hd := hd34_1000004) (ys := ys34_1000004) h1
  have w2 : Q34_1000004 (l, (k : Int), ()) = true := jnK_of (hd := hd34_1000004) (ys := ys34_1000004) h1
  have hE : E34 (l, (k : Int), ()) = some (a, b, e, ()) := by
    show S34 F36 G36 F38 G38 F39 G39 F40 G40 F41 G41 F42 G42 W34_1000012 Q34_1000012 W34_1000004 Q34_1000004 l (k : Int) = _
    unfold S34
    rw [w1, w2, decide_eq_false (show ¬ (k : Int) < 0 by omega), decide_eq_false (show ¬ (k : Int) ≥ ((l.length : Nat) : Int) by omega)]
    rfl
  have g : F34 (l, (k : Int), ()) = (a, b, e, ()) ∧ G34 (l, (k : Int), ()) = true := ofE hE
  exact ⟨a, b, e, g.1, g.2, h2⟩
/-! ## Starts -/
theorem V20_in {l : List In} {b : List Bool} {k : Nat} (hk : k < l.length) (hb : b.length = l.length) (hl : l.length ≤ 4096) :
    V20_0 (l, b, (k : Int), ()) = some (bif okAt l k then .inl (l, b.set k true, ((k + lng (l.getD k z0) : Nat) : Int), ()) else .inr (.inr ([], (k : Int), ()))) := by
  unfold V20_0 R20_0
  dsimp only
  have e1 : IntKind.wrap .i64 ((k : Int) + 1) = ((k + 1 : Nat) : Int) := by rw [wi64 (by omega)]; omega
  have e2 : IntKind.wrap .i64 (((k + 1 : Nat) : Int) + 1) = ((k + 2 : Nat) : Int) := by rw [wi64 (by omega)]; omega
  have e3 : sec false (lset false b (0 + k) true) 0 b.length = b.set k true := by
    rw [show 0 + k = k by omega, lset_eq (by omega)]
    exact sec_full (by simp)
  rw [show Int.toNat (k : Int) = k by omega, e3, e1, e2, (F33_one _).1, (F33_one _).2]
  rw [decide_eq_true (show (k : Int) < ((l.length : Nat) : Int) by omega), decide_eq_true (show (0 : Int) ≤ (k : Int) by omega), decide_eq_true (show (k : Int) < ((b.length : Nat) : Int) by omega), decide_eq_true (show 0 + k < b.length by omega), decide_eq_true (show 0 + b.length ≤ b.length by omega)]
  unfold okAt lng wd
  cases ho : one (l.getD k z0)
  · rfl
  · by_cases hw : (l.getD k z0).1 = 24
    · obtain ⟨a, c, e, h1, h2, h3⟩ := F34_ex hk hl hw ho
      rw [h1, h2]
      dsimp only
      rw [h3, decide_eq_true hw]
      cases decide (k + 1 < l.length) && sec2 (l.getD k z0) (l.getD (k + 1) z0) <;> rfl
    · rw [decide_eq_false hw]; rfl
theorem V20_end {l : List In} {b : List Bool} {k : Nat} (hk : l.length ≤ k) : V20_0 (l, b, (k : Int), ()) = some (.inr (.inl (b, ()))) := by
  unfold V20_0 R20_0
  dsimp only
  refine (bif_f (decide_eq_false (by omega))).trans ?_
  rw [sec_full rfl, decide_eq_true (show 0 + b.length ≤ b.length by omega)]
  rfl
theorem W20_run {l : List In} (hl : l.length ≤ 4096) : ∀ (f k : Nat) (b : List Bool), b.length = l.length → l.length ≤ k + f → wh V20_0 (l, b, (k : Int), ()) = some (outB (bgn l f k b))
  | 0, k, b, hb, hf => wh_stop (V20_end (by omega))
  | f + 1, k, b, hb, hf => by
    simp only [bgn]
    by_cases hk : k < l.length
    · rw [decide_eq_true hk]
      cases ho : okAt l k
      · have := V20_in hk hb hl
        rw [ho] at this
        exact wh_stop this
      · have := V20_in hk hb hl
        rw [ho] at this
        have hp := lng_pos (l.getD k z0)
        exact (wh_next this).trans (W20_run hl f _ _ (by simpa using hb) (by omega))
    · rw [decide_eq_false hk]
      exact wh_stop (V20_end (by omega))
theorem E20_eq {l : List In} (hl : l.length ≤ 4096) : E20 (l, ()) = some (resB (bg l)) := by
  show S20 F33 G33 F34 G34 W20_0 Q20_0 l = _
  unfold S20
  have h0 : sec false ([] : List Bool) 0 (Int.toNat ((l.length : Nat) : Int)) = List.replicate l.length false := by rw [show Int.toNat ((l.length : Nat) : Int) = l.length by omega]; exact sec_nil
  rw [h0]
  have hw := W20_run hl l.length 0 (List.replicate l.length false) (by simp) (by omega)
  have e1 : W20_0 (l, List.replicate l.length false, 0, ()) = outB (bg l) := whV_of (hd := hd20_0) (ys := ys20_0) hw
  have e2 : Q20_0 (l, List.replicate l.length false, 0, ()) = true := whK_of (hd := hd20_0) (ys := ys20_0) hw
  rw [e1, e2]
  rw [decide_eq_true (show (0 : Int) ≤ ((l.length : Nat) : Int) by omega), decide_eq_true (show ((l.length : Nat) : Int) ≤ ((l.length : Nat) : Int) by omega), show Int.toNat ((l.length : Nat) : Int) = l.length by omega,
    decide_eq_true (show 0 + l.length ≤ l.length by omega), decide_eq_true (show 1 * ((l.length : Nat) : Int) ≤ 281474976710656 by omega), decide_eq_true (show ((l.length : Nat) : Int) ≤ 281474976710656 by omega)]
  cases bg l with
  | inl b =>
    unfold outB
    show (bif _ then (bif _ then some (sec false b 0 b.length, -1, ()) else none) else _) = _
    rw [sec_full rfl]
    have : decide (0 + b.length ≤ b.length) = true := decide_eq_true (by omega)
    simp only [show isL (β := (List Bool) × Int × Unit) (Sum.inl (b, ())) = true from rfl]
    refine (bif_t rfl).trans ((bif_t ?_).trans rfl)
    simp [getL]
  | inr k => rfl
/-! ## Jumps, and where to -/
theorem F21_e (i : In) : F21 (i, ()) = jmp i ∧ G21 (i, ()) = true := by
  have hj : E19 (i, ()) = some (bif decide (iand .i64 i.1 7 = 5) || decide (iand .i64 i.1 7 = 6) then (!(decide (i.1 = 133))) && !(decide (i.1 = 149)) else false) := by
    show S19 F28 G28 i = _
    unfold S19
    rw [F28_e, G28_t]
    cases decide (iand .i64 i.1 7 = 5) <;> cases decide (iand .i64 i.1 7 = 6) <;> cases decide (i.1 = 133) <;> rfl
  have hj2 : jmp i = _ := (ofE hj : F19 (i, ()) = _ ∧ _).1
  have : E21 (i, ()) = some (jmp i) := by
    rw [hj2]
    show S21 i = _
    unfold S21
    by_cases h24 : i.1 = 24
    · rw [h24]; rfl
    · rw [decide_eq_false h24]
      cases decide (iand .i64 i.1 7 = 5) <;> cases decide (iand .i64 i.1 7 = 6) <;> cases decide (i.1 = 133) <;> cases decide (i.1 = 149) <;> rfl
  exact ofE this
end Go.Proofs
