import Derived.Test.YtfhpihomdnbgpaaNT
namespace Go.Proofs
open Go.GX
set_option linter.unusedVariables false
set_option linter.unusedSimpArgs false
theorem E6_i (a : KD6) (hl : a.2.2.2.1.length ≤ 1048576) : ∃ b, E6 (a, ()) = some b ∧ (b = true → a.2.2.2.2.1 ≤ 1099511627776) := by
 obtain ⟨g0, h0, _⟩ := lp_run (V := V6_0) (β := (Unit × KD6 × Unit) ⊕ (Bool × Unit)) (st := fun k => Ca a k) (bad := Sum.inr (false, ())) (good := Sum.inl ((), a, ())) (N := 11) (Q := fun _ => True) (fun i hi => Vqa a hi) rfl 11 0 (by omega)
 obtain ⟨g2, h2, q2⟩ := lp_run (V := V6_2) (β := (Unit × KD6 × Unit) ⊕ (Bool × Unit)) (st := fun k => Ca a k) (bad := Sum.inr (false, ())) (good := Sum.inl ((), a, ())) (N := 64) (Q := fun i => 0 ≤ (a.2.1.getD i dS).2.1 ∧ (a.2.1.getD i dS).2.1 ≤ 255) (fun i hi => Vqb a hi) rfl 64 0 (by omega)
 obtain ⟨g4, h4, _⟩ := lp_run (V := V6_4) (β := (Unit × KD6 × Unit) ⊕ (Bool × Unit)) (st := fun k => Ca a k) (bad := Sum.inr (false, ())) (good := Sum.inl ((), a, ())) (N := a.2.2.2.1.length) (Q := fun _ => True) (fun i hi => Vqd a hl hi) (Vqg a) a.2.2.2.1.length 0 (by omega)
 have k0 : Q6_0 ((), 0, a, ()) = true := whK_of h0
 have w0 : W6_0 ((), 0, a, ()) = _ := whV_of h0
 have k2 : Q6_2 ((), 0, a, ()) = true := whK_of h2
 have w2 : W6_2 ((), 0, a, ()) = _ := whV_of h2
 have k4 : Q6_4 ((), 0, a, ()) = true := whK_of h4
 have w4 : W6_4 ((), 0, a, ()) = _ := whV_of h4
 show ∃ b, S6 F12 G12 W6_0 Q6_0 W6_2 Q6_2 W6_6 Q6_6 W6_4 Q6_4 a = some b ∧ _
 unfold S6
 rw [w0, k0]
 cases g0
 ·exact ⟨false, rfl, fun e => by cases e⟩
 ·simp only [cond_true, isL, getL, w2, k2]
  cases g2
  ·exact ⟨false, rfl, fun e => by cases e⟩
  ·simp only [cond_true, isL, getL, w4, k4]
   have hq : ∀ i, i < 64 → 0 ≤ (a.2.1.getD i dS).2.1 ∧ (a.2.1.getD i dS).2.1 ≤ 255 := fun i hi => q2 rfl i (Nat.zero_le _) hi
   cases g4
   ·exact ⟨false, rfl, fun e => by cases e⟩
   ·simp only [cond_true, isL, getL]
    cases decide (a.2.2.1 ≥ 0)
    ·exact ⟨false, rfl, fun e => by cases e⟩
    ·cases decide (a.2.2.1 ≤ 1048576)
     ·exact ⟨false, rfl, fun e => by cases e⟩
     ·cases decide (a.2.2.2.2.1 ≥ 0)
      ·exact ⟨false, rfl, fun e => by cases e⟩
      ·exact ⟨_, rfl, fun h => of_decide_eq_true h⟩
theorem F6_i {a : KD6} (hl : a.2.2.2.1.length ≤ 1048576) (h : F6 (a, ()) = true) : a.2.2.2.2.1 ≤ 1099511627776 := by
 obtain ⟨b, h1, h2⟩ := E6_i a hl
 have hf : F6 (a, ()) = b := by show (E6 (a, ())).getD _ = _; rw [h1]; rfl
 exact h2 (hf ▸ h)
theorem F51_e {c : Cl} {r : Rg} (h : (F51 c (r, ())).2.1 = true) : 0 ≤ r.2.2.1 ∧ r.2.2.1 < ((c.2.1.length : Nat) : Int) ∧ (F51 c (r, ())).1 = c.2.1.getD (Int.toNat r.2.2.1) (0, (0, (0, (0, ())))) := by
 have e : E51 c (r, ()) = some (bif decide (r.1 = 6) then (bif decide (r.2.2.1 < 0) then ((0, (0, (0, (0, ())))), (false, ())) else (bif decide (r.2.2.1 ≥ ((c.2.1.length : Nat) : Int)) then ((0, (0, (0, (0, ())))), (false, ())) else (c.2.1.getD (Int.toNat r.2.2.1) (0, (0, (0, (0, ())))), (true, ())))) else ((0, (0, (0, (0, ())))), (false, ()))) := by
  show S51 c r = _
  unfold S51
  by_cases h0 : r.2.2.1 < 0
  ·rw [decide_eq_true h0]
   cases decide (r.1 = 6) <;> rfl
  ·by_cases h1 : r.2.2.1 ≥ ((c.2.1.length : Nat) : Int)
   ·rw [decide_eq_true h1]
    cases decide (r.1 = 6) <;> cases decide (r.2.2.1 < 0) <;> rfl
   ·rw [decide_eq_true (show 0 ≤ r.2.2.1 by omega), decide_eq_true (show r.2.2.1 < ((c.2.1.length : Nat) : Int) by omega)]
    cases decide (r.1 = 6) <;> cases decide (r.2.2.1 < 0) <;> cases decide (r.2.2.1 ≥ ((c.2.1.length : Nat) : Int)) <;> rfl
 have hf : F51 c (r, ()) = _ := (ofE (E := E51 c) (d := dflt KT29) e).1
 rw [hf] at h ⊢
 cases h1 : decide (r.1 = 6) <;> rw [h1] at h
 ·cases h
 ·by_cases h2 : r.2.2.1 < 0
  ·rw [decide_eq_true h2] at h; cases h
  ·by_cases h3 : r.2.2.1 ≥ ((c.2.1.length : Nat) : Int)
   ·rw [decide_eq_true h3, decide_eq_false h2] at h; cases h
   ·rw [decide_eq_false h2, decide_eq_false h3]
    exact ⟨by omega, by omega, rfl⟩
theorem F37_map {c : Cl} {i : Nat} (hi : i ≤ 5) (hk : c.2.2.1.2.1.length ≤ 1048576) (h : F37 c ((i : Int), 0, ()) = 0) : (F51 c (c.1.1.getD i dR, ())).2.1 = true := by
 cases hb : (F51 c (c.1.1.getD i dR, ())).2.1 with
 | true => rfl
 | false =>
  exfalso
  have e : E37 c ((i : Int), 0, ()) = some 61 := by
   show S37 F24 G24 F25 G25 F51 G51 F52 G52 F53 G53 c (i : Int) 0 = _
   unfold S37
   simp only [show Int.toNat (i : Int) = i by omega, hb, decide_eq_true (show i < 11 by omega), decide_eq_true (show 0 ≤ (i : Int) by omega), decide_eq_true (show (i : Int) < 11 by omega), G51_t]
   rfl
  have hf : F37 c ((i : Int), 0, ()) = 61 := (ofE (E := E37 c) (d := dflt (.int .i64)) e).1
  rw [hf] at h
  exact absurd h (by decide)
theorem F37_room {c : Cl} {i : Nat} (hi : i ≤ 5) (hr : ∀ j, 0 ≤ (c.1.1.getD j dR).2.1.1.1) : F37 c ((i : Int), 3, ()) = F52 (c.1, c.2.1, c.1.1.getD i dR, (F51 c (c.1.1.getD 1 dR, ())).1.2.2.1, true, ()) := by
 have g52 : ∀ n b, G52 (c.1, c.2.1, c.1.1.getD i dR, n, b, ()) = true := fun n b => some_of (E52_t c.1 c.2.1 (c.1.1.getD i dR) n b (hr i))
 have e : E37 c ((i : Int), 3, ()) = some (F52 (c.1, c.2.1, c.1.1.getD i dR, (F51 c (c.1.1.getD 1 dR, ())).1.2.2.1, true, ())) := by
  show S37 F24 G24 F25 G25 F51 G51 F52 G52 F53 G53 c (i : Int) 3 = _
  unfold S37
  simp only [show Int.toNat (i : Int) = i by omega, decide_eq_true (show i < 11 by omega), decide_eq_true (show 0 ≤ (i : Int) by omega), decide_eq_true (show (i : Int) < 11 by omega), G51_t, g52]
  rfl
 exact (ofE (E := E37 c) (d := dflt (.int .i64)) e).1
theorem V66_e {x : Sc} {n : Int} (h0 : 0 ≤ x.1.1) (hq : Q66_0 (x, n, ()) = false) : (onB x) = (x.1.1, (true, ())) ∧ V66 (x, n, ()) = (if 1073741824 < x.1.1 then 1073741824 else x.1.1) := by
 unfold Q66_0 panQ at hq
 unfold V66 panV
 have e : E66 (x, n, ()) = S66 F24 G24 V57 K57 Q57_0 x n := rfl
 rw [e] at hq ⊢
 unfold S66 at hq ⊢
 simp only [Q57_eq, K57_eq, (F24_e _).1, (F24_e _).2] at hq ⊢
 unfold onB at hq ⊢
 cases h : decide (x.1.2.1 = 0) <;> rw [h] at hq
 ·simp at hq
 ·refine ⟨rfl, ?_⟩
  show IntKind.wrap .i64 (if 1073741824 < x.1.1 then 1073741824 else x.1.1) = _
  rw [wi64 (by split <;> omega)]
theorem F52_stk {s : KD6} {l : List Sp} {r : Rg} {n : Int} {w : Bool} (h0 : 0 ≤ r.2.1.1.1) (hk : r.1 = 3) (h : F52 (s, l, r, n, w, ()) = 0) : onB r.2.1 = (r.2.1.1.1, (true, ())) ∧ 1 ≤ n ∧ r.2.1.1.1 + n ≤ 512 := by
 have e : E52 (s, l, r, n, w, ()) = S52 V57 K57 Q57_0 V65 K65 Q65_0 Q65_1 V66 K66 Q66_0 V67 K67 Q67_0 Q67_1 W52_0 Q52_0 s l r n w := rfl
 have bad : ∀ {v : Int}, v ≠ 0 → E52 (s, l, r, n, w, ()) = some v → False := fun hv he => by
  have : F52 (s, l, r, n, w, ()) = _ := (ofE (E := E52) (d := dflt (.int .i64)) he).1
  rw [this] at h
  exact hv h
 have hk0 : ¬ r.1 = 0 := by omega
 by_cases h1 : n ≥ 1
 ·cases hq : Q66_0 (r.2.1, 61, ()) with
  | true =>
   exfalso
   refine bad (v := 61) (by decide) ?_
   rw [e]; unfold S52
   simp only [Q57_eq, K57_eq, hq, decide_eq_true h1, decide_eq_false hk0, decide_eq_true hk]
   rfl
  | false =>
   obtain ⟨ho, hv⟩ := V66_e h0 hq
   refine ⟨ho, h1, ?_⟩
   rcases P66_e r.2.1 61 h0 with q | ⟨q, k, g⟩
   ·rw [hq] at q; cases q
   by_cases h2 : V66 (r.2.1, 61, ()) ≤ 512
   ·by_cases h3 : n ≤ 512 - V66 (r.2.1, 61, ())
    ·rw [hv] at h2 h3
     split at h2 <;> omega
    ·exfalso
     refine bad (v := 62) (by decide) ?_
     rw [e]; unfold S52
     simp only [Q57_eq, K57_eq, hq, k, decide_eq_true h1, decide_eq_false hk0, decide_eq_true hk, decide_eq_true h2]
     rw [wi64 (by omega), decide_eq_false h3]
     rfl
   ·exfalso
    refine bad (v := 62) (by decide) ?_
    rw [e]; unfold S52
    simp only [Q57_eq, K57_eq, hq, k, decide_eq_true h1, decide_eq_false hk0, decide_eq_true hk, decide_eq_false h2]
    rfl
 ·exfalso
  refine bad (v := 62) (by decide) ?_
  rw [e]; unfold S52
  simp only [Q57_eq, K57_eq, decide_eq_false h1, decide_eq_false hk0]
  rfl
end Go.Proofs
