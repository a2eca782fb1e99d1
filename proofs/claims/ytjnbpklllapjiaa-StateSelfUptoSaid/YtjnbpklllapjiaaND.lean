import Derived.Test.YtjnbpklllapjiaaNC
namespace Go.Proofs
open Go.GX
set_option linter.unusedVariables false
set_option linter.unusedSimpArgs false
/-! ## Whether a state covers another one -/
def fo (f : Nat → PL → Bool × PL) : Nat → Nat → PL → Bool × PL
  | 0, _, P => (true, P)
  | n + 1, i, P => bif (f i P).1 then fo f n (i + 1) (f i P).2 else (false, (f i P).2)
theorem fo_run {α β : Type} {V : α → Option (α ⊕ β)} {st : Nat → PL → α} {f : Nat → PL → Bool × PL} {bad good : PL → β} {N : Nat} {I : Nat → PL → Prop}
    (hs : ∀ i P, i < N → I i P → V (st i P) = some (bif (f i P).1 then .inl (st (i + 1) (f i P).2) else .inr (bad (f i P).2)))
    (hI : ∀ i P, i < N → I i P → I (i + 1) (f i P).2) (he : ∀ P, I N P → V (st N P) = some (.inr (good P))) :
    ∀ (n i : Nat) (P : PL), i + n = N → I i P → wh V (st i P) = some (bif (fo f n i P).1 then good (fo f n i P).2 else bad (fo f n i P).2) ∧ ((fo f n i P).1 = true → I N (fo f n i P).2)
  | 0, i, P, hn, h => by
    have : i = N := by omega
    subst this
    exact ⟨wh_stop (he P h), fun _ => h⟩
  | n + 1, i, P, hn, h => by
    have hV := hs i P (by omega) h
    have h1 := hI i P (by omega) h
    unfold fo
    cases hf : (f i P).1 with
    | true =>
      rw [hf] at hV
      simp only [cond_true] at hV ⊢
      rw [wh_next hV]
      exact fo_run hs hI he n (i + 1) _ (by omega) h1
    | false =>
      rw [hf] at hV
      simp only [cond_false] at hV ⊢
      exact ⟨wh_stop hV, fun e => by cases e⟩
abbrev dR : Rg := (0, (((0, (0, ())), (0, (0, ()))), (0, (0, (0, ())))))
abbrev dS : Sl := (0, (0, ((0, (((0, (0, ())), (0, (0, ()))), (0, (0, (0, ()))))), ())))
def f0 (a b : KD6) (i : Nat) (P : PL) : Bool × PL := cv (a.1.getD i dR) (b.1.getD i dR) P
def f1 (a b : KD6) (i : Nat) (P : PL) : Bool × PL := sv (a.2.1.getD i dS) (b.2.1.getD i dS) P
def f2 (l m : List Int) (i : Nat) (P : PL) : Bool × PL := tgo P (l.getD i 0) (m.getD i 0)
abbrev A0 (a b : KD6) (i : Nat) (P : PL) : (Unit × Unit × Unit × Int × KD6 × KD6 × KD8 × Unit) := ((), (), (), (i : Int), a, b, pr P, ())
theorem V90 {a b : KD6} {i : Nat} {P : PL} (hi : i < 11) (hP : ND P) : V9_0 (A0 a b i P) = some (bif (f0 a b i P).1 then .inl (A0 a b (i + 1) (f0 a b i P).2) else .inr (.inr (false, ()))) := by
  show R9_0 F27 H27 G27 F28 H28 G28 F29 H29 G29 _ _ _ _ _ _ _ _ () () () (i : Int) a b (row (·.1) (·.2) P, (row (·.2) (·.1) P, ())) = _
  unfold R9_0 f0
  dsimp only
  have e1 : IntKind.wrap .i64 ((i : Int) + 1) = ((i + 1 : Nat) : Int) := by rw [wi64 (by omega)]; omega
  rw [e1, show Int.toNat (i : Int) = i by omega, decide_eq_true (show (i : Int) < 11 by omega), decide_eq_true (show 0 ≤ (i : Int) by omega), decide_eq_true hi]
  simp only [F27_e hP]
  cases (cv (a.1.getD i dR) (b.1.getD i dR) P).1 <;> rfl
theorem V90e {a b : KD6} {P : PL} : V9_0 (A0 a b 11 P) = some (.inr (.inl ((), (), (), a, b, pr P, ()))) := rfl
abbrev A2 (a b : KD6) (i : Nat) (P : PL) : (Unit × Unit × Unit × Int × KD6 × KD6 × KD9 × Unit) := ((), (), (), (i : Int), a, b, pr P, ())
theorem V92 {a b : KD6} {i : Nat} {P : PL} (hi : i < 64) (hP : ND P) : V9_2 (A2 a b i P) = some (bif (f1 a b i P).1 then .inl (A2 a b (i + 1) (f1 a b i P).2) else .inr (.inr (false, ()))) := by
  show R9_2 F27 H27 G27 F28 H28 G28 F29 H29 G29 _ _ _ _ _ _ _ _ () () () (i : Int) a b (row (·.1) (·.2) P, (row (·.2) (·.1) P, ())) = _
  unfold R9_2 f1
  dsimp only
  have e1 : IntKind.wrap .i64 ((i : Int) + 1) = ((i + 1 : Nat) : Int) := by rw [wi64 (by omega)]; omega
  rw [e1, show Int.toNat (i : Int) = i by omega, decide_eq_true (show (i : Int) < 64 by omega), decide_eq_true (show 0 ≤ (i : Int) by omega), decide_eq_true hi]
  simp only [F28_e hP]
  cases (sv (a.2.1.getD i dS) (b.2.1.getD i dS) P).1 <;> rfl
theorem V92e {a b : KD6} {P : PL} : V9_2 (A2 a b 64 P) = some (.inr (.inl ((), (), (), a, b, pr P, ()))) := rfl
abbrev A9 (l m : List Int) (i : Nat) (P : PL) : ((List Int) × Unit × (List Int) × Int × Int × KD7 × Unit) := (m, (), l, ((l.length : Nat) : Int), (i : Int), pr P, ())
theorem V29 {l m : List Int} {i : Nat} {P : PL} (hl : l.length ≤ 1048576) (hlm : l.length = m.length) (hi : i < l.length) (hP : ND P) : V29_0 (A9 l m i P) = some (bif (f2 l m i P).1 then .inl (A9 l m (i + 1) (f2 l m i P).2) else .inr (.inr (false, pr (f2 l m i P).2, ()))) := by
  show R29_0 F30 H30 G30 _ _ m () l ((l.length : Nat) : Int) (i : Int) (row (·.1) (·.2) P, (row (·.2) (·.1) P, ())) = _
  unfold R29_0 f2
  dsimp only
  have e1 : IntKind.wrap .i64 ((i : Int) + 1) = ((i + 1 : Nat) : Int) := by rw [wi64 (by omega)]; omega
  rw [e1, show Int.toNat (i : Int) = i by omega, ← hlm, decide_eq_true (show (i : Int) < ((l.length : Nat) : Int) by omega), decide_eq_true (show 0 ≤ (i : Int) by omega)]
  simp only [F30_e hP]
  cases (tgo P (l.getD i 0) (m.getD i 0)).1 <;> rfl
theorem V29e {l m : List Int} {P : PL} : V29_0 (A9 l m l.length P) = some (.inr (.inl (pr P, ()))) := by
  show R29_0 F30 H30 G30 _ _ m () l ((l.length : Nat) : Int) ((l.length : Nat) : Int) (row (·.1) (·.2) P, (row (·.2) (·.1) P, ())) = _
  unfold R29_0
  rw [decide_eq_false (Int.lt_irrefl _)]
  rfl
theorem E29_eq {l m : List Int} {P : PL} (hl : l.length ≤ 1048576) (hP : ND P) : ∃ Q, E29 (pr P) (l, m, ()) = some (bif decide (l.length = m.length) then (fo (f2 l m) l.length 0 P).1 else false, pr Q) := by
  by_cases hlm : l.length = m.length
  · have hw := (fo_run (V := V29_0) (β := (KD7 × Unit) ⊕ (Bool × KD7 × Unit)) (st := A9 l m) (f := f2 l m) (bad := fun Q => Sum.inr (false, pr Q, ())) (good := fun Q => Sum.inl (pr Q, ())) (N := l.length) (I := fun _ P => ND P)
      (fun i P hi h => V29 hl hlm hi h) (fun i P _ h => ND_tgo h _ _) (fun P _ => V29e) l.length 0 P (by omega) hP).1
    have k : Q29_0 (m, (), l, ((l.length : Nat) : Int), 0, (row (·.1) (·.2) P, (row (·.2) (·.1) P, ())), ()) = true := whK_of hw
    have w : W29_0 (m, (), l, ((l.length : Nat) : Int), 0, (row (·.1) (·.2) P, (row (·.2) (·.1) P, ())), ()) = _ := whV_of hw
    refine ⟨(fo (f2 l m) l.length 0 P).2, ?_⟩
    show S29 F30 H30 G30 W29_0 Q29_0 (row (·.1) (·.2) P, (row (·.2) (·.1) P, ())) l m = _
    unfold S29
    dsimp only
    rw [w, k, decide_eq_true (show ((l.length : Nat) : Int) = ((m.length : Nat) : Int) by omega), decide_eq_true hlm]
    cases (fo (f2 l m) l.length 0 P).1 <;> rfl
  · refine ⟨P, ?_⟩
    show S29 F30 H30 G30 W29_0 Q29_0 (row (·.1) (·.2) P, (row (·.2) (·.1) P, ())) l m = _
    unfold S29
    rw [decide_eq_false (show ¬ ((l.length : Nat) : Int) = ((m.length : Nat) : Int) by omega), decide_eq_false hlm]
    rfl
/-! ### The first one's -/
def inV2 (a b : KD6) (P : PL) : Bool := bif decide (a.2.2.2.1.length = b.2.2.2.1.length) then (bif (fo (f2 a.2.2.2.1 b.2.2.2.1) a.2.2.2.1.length 0 P).1 then decide (a.2.2.1 ≤ b.2.2.1) else false) else false
def inV1 (a b : KD6) (P : PL) : Bool := bif (fo (f1 a b) 64 0 P).1 then inV2 a b (fo (f1 a b) 64 0 P).2 else false
def inV (a b : KD6) : Bool := bif (fo (f0 a b) 11 0 []).1 then inV1 a b (fo (f0 a b) 11 0 []).2 else false
theorem W915 {a b : KD6} {P : PL} (hl : a.2.2.2.1.length ≤ 1048576) (hP : ND P) : W9_1000015 ((), (), (), a, b, pr P, ()) = (inV2 a b P, ()) ∧ Q9_1000015 ((), (), (), a, b, pr P, ()) = true := by
  obtain ⟨Q, hQ⟩ := E29_eq (l := a.2.2.2.1) (m := b.2.2.2.1) (P := P) hl hP
  have f29 : F29 (row (·.1) (·.2) P, (row (·.2) (·.1) P, ())) (a.2.2.2.1, b.2.2.2.1, ()) = (bif decide (a.2.2.2.1.length = b.2.2.2.1.length) then (fo (f2 a.2.2.2.1 b.2.2.2.1) a.2.2.2.1.length 0 P).1 else false) := by
    show ((E29 (pr P) (a.2.2.2.1, b.2.2.2.1, ())).getD _).1 = _; rw [hQ]; rfl
  have g29 : G29 (row (·.1) (·.2) P, (row (·.2) (·.1) P, ())) (a.2.2.2.1, b.2.2.2.1, ()) = true := by
    show (E29 (pr P) (a.2.2.2.1, b.2.2.2.1, ())).isSome = true; rw [hQ]; rfl
  have h : V9_1000015 ((), (), (), a, b, pr P, ()) = some (inV2 a b P, ()) := by
    show R9_1000015 F27 H27 G27 F28 H28 G28 F29 H29 G29 _ _ _ _ _ _ _ _ () () () a b (row (·.1) (·.2) P, (row (·.2) (·.1) P, ())) = _
    unfold R9_1000015 inV2
    dsimp only
    rw [f29, g29]
    cases decide (a.2.2.2.1.length = b.2.2.2.1.length)
    · rfl
    · cases (fo (f2 a.2.2.2.1 b.2.2.2.1) a.2.2.2.1.length 0 P).1 <;> rfl
  exact ⟨by show (V9_1000015 ((), (), (), a, b, pr P, ())).getD (false, ()) = _; rw [h]; rfl, by show (V9_1000015 ((), (), (), a, b, pr P, ())).isSome = true; rw [h]; rfl⟩
theorem W99 {a b : KD6} {P : PL} (hl : a.2.2.2.1.length ≤ 1048576) (hP : ND P) : W9_1000009 ((), (), (), a, b, pr P, ()) = (inV1 a b P, ()) ∧ Q9_1000009 ((), (), (), a, b, pr P, ()) = true := by
  obtain ⟨hw, hn⟩ := fo_run (V := V9_2) (β := (Unit × Unit × Unit × KD6 × KD6 × KD9 × Unit) ⊕ (Bool × Unit)) (st := A2 a b) (f := f1 a b) (bad := fun _ => Sum.inr (false, ())) (good := fun Q => Sum.inl ((), (), (), a, b, pr Q, ())) (N := 64) (I := fun _ P => ND P)
      (fun i P hi h => V92 hi h) (fun i P _ h => ND_sv h _ _) (fun P _ => V92e) 64 0 P (by omega) hP
  have k : Q9_2 ((), (), (), 0, a, b, (row (·.1) (·.2) P, (row (·.2) (·.1) P, ())), ()) = true := whK_of hw
  have w : W9_2 ((), (), (), 0, a, b, (row (·.1) (·.2) P, (row (·.2) (·.1) P, ())), ()) = _ := whV_of hw
  have h : V9_1000009 ((), (), (), a, b, pr P, ()) = some (inV1 a b P, ()) := by
    show R9_1000009 F27 H27 G27 F28 H28 G28 F29 H29 G29 _ _ W9_2 Q9_2 W9_1000015 Q9_1000015 _ _ () () () a b (row (·.1) (·.2) P, (row (·.2) (·.1) P, ())) = _
    unfold R9_1000009 inV1
    dsimp only
    rw [w, k]
    revert hn
    cases (fo (f1 a b) 64 0 P).1 with
    | false => intro _; rfl
    | true =>
      intro hn
      have h15 := W915 (b := b) hl (hn rfl)
      have h15a : W9_1000015 ((), (), (), a, b, (row (·.1) (·.2) (fo (f1 a b) 64 0 P).2, (row (·.2) (·.1) (fo (f1 a b) 64 0 P).2, ())), ()) = _ := h15.1
      have h15b : Q9_1000015 ((), (), (), a, b, (row (·.1) (·.2) (fo (f1 a b) 64 0 P).2, (row (·.2) (·.1) (fo (f1 a b) 64 0 P).2, ())), ()) = true := h15.2
      simp only [isL, getL, cond_true, pr, h15a, h15b]
      rfl
  exact ⟨by show (V9_1000009 ((), (), (), a, b, pr P, ())).getD (false, ()) = _; rw [h]; rfl, by show (V9_1000009 ((), (), (), a, b, pr P, ())).isSome = true; rw [h]; rfl⟩
theorem E9_eq {a b : KD6} (hl : a.2.2.2.1.length ≤ 1048576) : E9 (a, b, ()) = some (inV a b) := by
  obtain ⟨hw, hn⟩ := fo_run (V := V9_0) (β := (Unit × Unit × Unit × KD6 × KD6 × KD8 × Unit) ⊕ (Bool × Unit)) (st := A0 a b) (f := f0 a b) (bad := fun _ => Sum.inr (false, ())) (good := fun Q => Sum.inl ((), (), (), a, b, pr Q, ())) (N := 11) (I := fun _ P => ND P)
      (fun i P hi h => V90 hi h) (fun i P _ h => ND_cv h _ _) (fun P _ => V90e) 11 0 [] (by omega) ND_nil
  have k : Q9_0 ((), (), (), 0, a, b, ([], ([], ())), ()) = true := whK_of hw
  have w : W9_0 ((), (), (), 0, a, b, ([], ([], ())), ()) = _ := whV_of hw
  show S9 F27 H27 G27 F28 H28 G28 F29 H29 G29 W9_0 Q9_0 W9_2 Q9_2 W9_1000015 Q9_1000015 W9_1000009 Q9_1000009 a b = _
  unfold S9 inV
  rw [w, k]
  revert hn
  cases (fo (f0 a b) 11 0 []).1 with
  | false => intro _; rfl
  | true =>
    intro hn
    have h9 := W99 (b := b) hl (hn rfl)
    have h9a : W9_1000009 ((), (), (), a, b, (row (·.1) (·.2) (fo (f0 a b) 11 0 []).2, (row (·.2) (·.1) (fo (f0 a b) 11 0 []).2, ())), ()) = _ := h9.1
    have h9b : Q9_1000009 ((), (), (), a, b, (row (·.1) (·.2) (fo (f0 a b) 11 0 []).2, (row (·.2) (·.1) (fo (f0 a b) 11 0 []).2, ())), ()) = true := h9.2
    simp only [isL, getL, cond_true, pr, h9a, h9b]
    rfl
theorem F9_e {a b : KD6} (hl : a.2.2.2.1.length ≤ 1048576) : F9 (a, b, ()) = inV a b ∧ G9 (a, b, ()) = true := ofE (E9_eq hl)
end Go.Proofs
