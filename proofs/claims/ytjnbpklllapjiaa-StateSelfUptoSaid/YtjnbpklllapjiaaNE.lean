import Derived.Test.YtjnbpklllapjiaaND
namespace Go.Proofs
open Go.GX
set_option linter.unusedVariables false
set_option linter.unusedSimpArgs false
/-! ### The reference's -/
/-- what is known of the states' numbers -/
structure OkS (a : KD6) : Prop where
  reg : ∀ i, i < 11 → InR (a.1.getD i dR).2.1.1.2.1
  slot : ∀ i, i < 64 → okSl (a.2.1.getD i dS)
  refs : a.2.2.2.1.length ≤ 1048576
theorem t1 (Q : PL) : sec 0 (Q.map (·.1)) 0 (Q.map (·.1)).length = Q.map (·.1) := sec_full rfl
theorem t2 (Q : PL) : sec 0 (Q.map (·.2)) 0 (Q.map (·.2)).length = Q.map (·.2) := sec_full rfl
abbrev B0 (a b : KD6) (i : Nat) (P : PL) : (Unit × Unit × Unit × Int × KD6 × KD6 × KD10 × Unit) := ((), (), (), (i : Int), a, b, tb P, ())
theorem V100 {a b : KD6} (ha : OkS a) {i : Nat} {P : PL} (hi : i < 11) (hP : P.length ≤ i) : V10_0 (B0 a b i P) = some (bif (f0 a b i P).1 then .inl (B0 a b (i + 1) (f0 a b i P).2) else .inr (.inr (false, ()))) := by
  show R10_0 F31 H31 G31 F32 H32 G32 F33 H33 G33 _ _ _ _ _ _ _ _ _ _ _ _ () () () (i : Int) a b (P.map (·.1), (P.map (·.2), ())) = _
  unfold R10_0 f0
  dsimp only
  have e1 : IntKind.wrap .i64 ((i : Int) + 1) = ((i + 1 : Nat) : Int) := by rw [wi64 (by omega)]; omega
  rw [e1, show Int.toNat (i : Int) = i by omega, decide_eq_true (show (i : Int) < 11 by omega), decide_eq_true (show 0 ≤ (i : Int) by omega), decide_eq_true hi]
  simp only [t1, t2, le00, F31_e (show P.length ≤ 2097152 by omega) (a.1.getD i dR) (b.1.getD i dR) (ha.reg i hi), tb]
  cases (cv (a.1.getD i dR) (b.1.getD i dR) P).1 <;> rfl
theorem V100e {a b : KD6} {P : PL} : V10_0 (B0 a b 11 P) = some (.inr (.inl ((), (), (), a, b, tb P, ()))) := by
  show R10_0 F31 H31 G31 F32 H32 G32 F33 H33 G33 _ _ _ _ _ _ _ _ _ _ _ _ () () () 11 a b (P.map (·.1), (P.map (·.2), ())) = _
  unfold R10_0
  dsimp only
  simp only [t1, t2, le00]
  rfl
abbrev B2 (a b : KD6) (i : Nat) (P : PL) : (Unit × Unit × Unit × Int × KD6 × KD6 × KD11 × Unit) := ((), (), (), (i : Int), a, b, tb P, ())
theorem V102 {a b : KD6} (ha : OkS a) (hb : OkS b) {i : Nat} {P : PL} (hi : i < 64) (hP : P.length ≤ 11 + i) : V10_2 (B2 a b i P) = some (bif (f1 a b i P).1 then .inl (B2 a b (i + 1) (f1 a b i P).2) else .inr (.inr (false, ()))) := by
  show R10_2 F31 H31 G31 F32 H32 G32 F33 H33 G33 _ _ _ _ _ _ _ _ _ _ _ _ () () () (i : Int) a b (P.map (·.1), (P.map (·.2), ())) = _
  unfold R10_2 f1
  dsimp only
  have e1 : IntKind.wrap .i64 ((i : Int) + 1) = ((i + 1 : Nat) : Int) := by rw [wi64 (by omega)]; omega
  rw [e1, show Int.toNat (i : Int) = i by omega, decide_eq_true (show (i : Int) < 64 by omega), decide_eq_true (show 0 ≤ (i : Int) by omega), decide_eq_true hi]
  simp only [t1, t2, le00, F32_e (show P.length ≤ 2097152 by omega) (a.2.1.getD i dS) (b.2.1.getD i dS) (ha.slot i hi) (hb.slot i hi), tb]
  cases (sv (a.2.1.getD i dS) (b.2.1.getD i dS) P).1 <;> rfl
theorem V102e {a b : KD6} {P : PL} : V10_2 (B2 a b 64 P) = some (.inr (.inl ((), (), (), a, b, tb P, ()))) := by
  show R10_2 F31 H31 G31 F32 H32 G32 F33 H33 G33 _ _ _ _ _ _ _ _ _ _ _ _ () () () 64 a b (P.map (·.1), (P.map (·.2), ())) = _
  unfold R10_2
  dsimp only
  simp only [t1, t2, le00]
  rfl
abbrev B4 (a b : KD6) (i : Nat) (P : PL) : (Unit × Unit × Unit × Int × KD6 × KD6 × KD32 × Unit) := ((), (), (), (i : Int), a, b, tb P, ())
theorem V104 {a b : KD6} (ha : OkS a) (hlm : a.2.2.2.1.length = b.2.2.2.1.length) {i : Nat} {P : PL} (hi : i < a.2.2.2.1.length) (hP : P.length ≤ 75 + i) : V10_4 (B4 a b i P) = some (bif (f2 a.2.2.2.1 b.2.2.2.1 i P).1 then .inl (B4 a b (i + 1) (f2 a.2.2.2.1 b.2.2.2.1 i P).2) else .inr (.inr (false, ()))) := by
  have hl := ha.refs
  show R10_4 F31 H31 G31 F32 H32 G32 F33 H33 G33 _ _ _ _ _ _ _ _ _ _ _ _ () () () (i : Int) a b (P.map (·.1), (P.map (·.2), ())) = _
  unfold R10_4 f2
  dsimp only
  have e1 : IntKind.wrap .i64 ((i : Int) + 1) = ((i + 1 : Nat) : Int) := by rw [wi64 (by omega)]; omega
  rw [e1, show Int.toNat (i : Int) = i by omega, ← hlm, decide_eq_true (show (i : Int) < ((a.2.2.2.1.length : Nat) : Int) by omega), decide_eq_true (show 0 ≤ (i : Int) by omega)]
  simp only [t1, t2, le00, F33_e (show P.length ≤ 2097152 by omega), tb]
  cases (tgo P (a.2.2.2.1.getD i 0) (b.2.2.2.1.getD i 0)).1 <;> rfl
theorem V104e {a b : KD6} {P : PL} : V10_4 (B4 a b a.2.2.2.1.length P) = some (.inr (.inl ((), (), a, b, ()))) := by
  show R10_4 F31 H31 G31 F32 H32 G32 F33 H33 G33 _ _ _ _ _ _ _ _ _ _ _ _ () () () ((a.2.2.2.1.length : Nat) : Int) a b (P.map (·.1), (P.map (·.2), ())) = _
  unfold R10_4
  rw [decide_eq_false (Int.lt_irrefl _)]
  rfl
theorem W1020 (a b : KD6) : W10_1000020 ((), (), a, b, ()) = (decide (a.2.2.1 ≤ b.2.2.1), ()) ∧ Q10_1000020 ((), (), a, b, ()) = true := by
  have h : V10_1000020 ((), (), a, b, ()) = some (decide (a.2.2.1 ≤ b.2.2.1), ()) := rfl
  exact ⟨by show (V10_1000020 ((), (), a, b, ())).getD (false, ()) = _; rw [h]; rfl, by show (V10_1000020 ((), (), a, b, ())).isSome = true; rw [h]; rfl⟩
theorem W1013 {a b : KD6} (ha : OkS a) {P : PL} (hP : P.length ≤ 75) : W10_1000013 ((), (), (), a, b, tb P, ()) = (inV2 a b P, ()) ∧ Q10_1000013 ((), (), (), a, b, tb P, ()) = true := by
  have h : V10_1000013 ((), (), (), a, b, tb P, ()) = some (inV2 a b P, ()) := by
    show R10_1000013 F31 H31 G31 F32 H32 G32 F33 H33 G33 _ _ _ _ W10_4 Q10_4 W10_1000020 Q10_1000020 _ _ _ _ () () () a b (P.map (·.1), (P.map (·.2), ())) = _
    unfold R10_1000013 inV2
    dsimp only
    simp only [t1, t2, le00]
    by_cases hlm : a.2.2.2.1.length = b.2.2.2.1.length
    · have hw := (fo_run (V := V10_4) (β := (Unit × Unit × KD6 × KD6 × Unit) ⊕ (Bool × Unit)) (st := B4 a b) (f := f2 a.2.2.2.1 b.2.2.2.1) (bad := fun _ => Sum.inr (false, ())) (good := fun Q => Sum.inl ((), (), a, b, ())) (N := a.2.2.2.1.length) (I := fun i P => P.length ≤ 75 + i)
        (fun i P hi h => V104 ha hlm hi h) (fun i P _ h => Nat.le_trans (tgo_len ..) (by omega)) (fun P _ => V104e) a.2.2.2.1.length 0 P (by omega) (by omega)).1
      have k : Q10_4 ((), (), (), 0, a, b, (P.map (·.1), (P.map (·.2), ())), ()) = true := whK_of hw
      have w : W10_4 ((), (), (), 0, a, b, (P.map (·.1), (P.map (·.2), ())), ()) = _ := whV_of hw
      rw [w, k, decide_eq_true (show ((a.2.2.2.1.length : Nat) : Int) = ((b.2.2.2.1.length : Nat) : Int) by omega), decide_eq_true hlm]
      cases (fo (f2 a.2.2.2.1 b.2.2.2.1) a.2.2.2.1.length 0 P).1
      · rfl
      · simp only [isL, getL, cond_true, W1020]; rfl
    · rw [decide_eq_false (show ¬ ((a.2.2.2.1.length : Nat) : Int) = ((b.2.2.2.1.length : Nat) : Int) by omega), decide_eq_false hlm]
      rfl
  exact ⟨by show (V10_1000013 ((), (), (), a, b, tb P, ())).getD (false, ()) = _; rw [h]; rfl, by show (V10_1000013 ((), (), (), a, b, tb P, ())).isSome = true; rw [h]; rfl⟩
theorem W108 {a b : KD6} (ha : OkS a) (hb : OkS b) {P : PL} (hP : P.length ≤ 11) : W10_1000008 ((), (), (), a, b, tb P, ()) = (inV1 a b P, ()) ∧ Q10_1000008 ((), (), (), a, b, tb P, ()) = true := by
  obtain ⟨hw, hn⟩ := fo_run (V := V10_2) (β := (Unit × Unit × Unit × KD6 × KD6 × KD11 × Unit) ⊕ (Bool × Unit)) (st := B2 a b) (f := f1 a b) (bad := fun _ => Sum.inr (false, ())) (good := fun Q => Sum.inl ((), (), (), a, b, tb Q, ())) (N := 64) (I := fun i P => P.length ≤ 11 + i)
      (fun i P hi h => V102 ha hb hi h) (fun i P _ h => Nat.le_trans (sv_len ..) (by omega)) (fun P _ => V102e) 64 0 P (by omega) (by omega)
  have k : Q10_2 ((), (), (), 0, a, b, (P.map (·.1), (P.map (·.2), ())), ()) = true := whK_of hw
  have w : W10_2 ((), (), (), 0, a, b, (P.map (·.1), (P.map (·.2), ())), ()) = _ := whV_of hw
  have h : V10_1000008 ((), (), (), a, b, tb P, ()) = some (inV1 a b P, ()) := by
    show R10_1000008 F31 H31 G31 F32 H32 G32 F33 H33 G33 _ _ W10_2 Q10_2 _ _ _ _ W10_1000013 Q10_1000013 _ _ () () () a b (P.map (·.1), (P.map (·.2), ())) = _
    unfold R10_1000008 inV1
    dsimp only
    simp only [t1, t2, le00]
    rw [w, k]
    revert hn
    cases (fo (f1 a b) 64 0 P).1 with
    | false => intro _; rfl
    | true =>
      intro hn
      have h13 := W1013 (b := b) ha (hn rfl)
      have h13a : W10_1000013 ((), (), (), a, b, ((fo (f1 a b) 64 0 P).2.map (·.1), ((fo (f1 a b) 64 0 P).2.map (·.2), ())), ()) = _ := h13.1
      have h13b : Q10_1000013 ((), (), (), a, b, ((fo (f1 a b) 64 0 P).2.map (·.1), ((fo (f1 a b) 64 0 P).2.map (·.2), ())), ()) = true := h13.2
      simp only [isL, getL, cond_true, tb, t1, t2, le00, h13a, h13b]
      rfl
  exact ⟨by show (V10_1000008 ((), (), (), a, b, tb P, ())).getD (false, ()) = _; rw [h]; rfl, by show (V10_1000008 ((), (), (), a, b, tb P, ())).isSome = true; rw [h]; rfl⟩
theorem E10_eq {a b : KD6} (ha : OkS a) (hb : OkS b) : E10 (a, b, ()) = some (inV a b) := by
  obtain ⟨hw, hn⟩ := fo_run (V := V10_0) (β := (Unit × Unit × Unit × KD6 × KD6 × KD10 × Unit) ⊕ (Bool × Unit)) (st := B0 a b) (f := f0 a b) (bad := fun _ => Sum.inr (false, ())) (good := fun Q => Sum.inl ((), (), (), a, b, tb Q, ())) (N := 11) (I := fun i P => P.length ≤ i)
      (fun i P hi h => V100 ha hi h) (fun i P _ h => Nat.le_trans (cv_len ..) (by omega)) (fun P _ => V100e) 11 0 [] (by omega) (Nat.le_refl _)
  have k : Q10_0 ((), (), (), 0, a, b, ([], ([], ())), ()) = true := whK_of hw
  have w : W10_0 ((), (), (), 0, a, b, ([], ([], ())), ()) = _ := whV_of hw
  show S10 F31 H31 G31 F32 H32 G32 F33 H33 G33 W10_0 Q10_0 W10_2 Q10_2 W10_4 Q10_4 W10_1000020 Q10_1000020 W10_1000013 Q10_1000013 W10_1000008 Q10_1000008 a b = _
  unfold S10 inV
  rw [w, k]
  revert hn
  cases (fo (f0 a b) 11 0 []).1 with
  | false => intro _; rfl
  | true =>
    intro hn
    have h8 := W108 ha hb (hn rfl)
    have h8a : W10_1000008 ((), (), (), a, b, ((fo (f0 a b) 11 0 []).2.map (·.1), ((fo (f0 a b) 11 0 []).2.map (·.2), ())), ()) = _ := h8.1
    have h8b : Q10_1000008 ((), (), (), a, b, ((fo (f0 a b) 11 0 []).2.map (·.1), ((fo (f0 a b) 11 0 []).2.map (·.2), ())), ()) = true := h8.2
    simp only [isL, getL, cond_true, tb, t1, t2, h8a, h8b]
    simp [tt_eq]
theorem F10_e {a b : KD6} (ha : OkS a) (hb : OkS b) : F10 (a, b, ()) = inV a b ∧ G10 (a, b, ()) = true := ofE (E10_eq ha hb)
end Go.Proofs
