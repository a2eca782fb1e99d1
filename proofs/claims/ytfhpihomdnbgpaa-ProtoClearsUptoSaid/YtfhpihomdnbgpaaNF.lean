import Derived.Test.YtfhpihomdnbgpaaN
namespace Go.Proofs
open Go.GX
set_option linter.unusedVariables false
set_option linter.unusedSimpArgs false
theorem lp_run {α β : Type} {V : α → Option (α ⊕ β)} {st : Nat → α} {bad good : β} {N : Nat} {Q : Nat → Prop}
 (hs : ∀ i, i < N → ∃ g : Bool, V (st i) = some (bif g then .inl (st (i + 1)) else .inr bad) ∧ (g = true → Q i)) (he : V (st N) = some (.inr good)) :
 ∀ n i, i + n = N → ∃ g : Bool, wh V (st i) = some (bif g then good else bad) ∧ (g = true → ∀ j, i ≤ j → j < N → Q j)
 | 0, i, hn => by
  have : i = N := by omega
  subst this
  exact ⟨true, wh_stop he, fun _ j h1 h2 => by omega⟩
 | n + 1, i, hn => by
  obtain ⟨g, hV, hQ⟩ := hs i (by omega)
  cases g with
  | false => exact ⟨false, wh_stop hV, fun e => by cases e⟩
  | true =>
   obtain ⟨g2, h1, h2⟩ := lp_run hs he n (i + 1) (by omega)
   refine ⟨g2, by rw [wh_next hV]; exact h1, fun e j hj hN => ?_⟩
   rcases Nat.lt_or_ge i j with h | h
   ·exact h2 e j (by omega) hN
   ·have : i = j := by omega
    subst this
    exact hQ rfl
theorem E12_t (r : Rg) : ∃ b, E12 (r, ()) = some b := by
 show ∃ b, S12 F27 G27 r = some b
 unfold S12
 simp only [F27_eq]
 generalize (decide (r.1 = 0) && (((decide (r.2.1.1.1 = 0) && tt 1 (decide (r.2.1.1.2.1 = 0))) && (decide (r.2.1.2.1 = 0) && tt 1 (decide (r.2.1.2.2.1 = 0)))) && (decide (r.2.2.1 = 0) && (decide (r.2.2.2.1 = 0) && tt 1 (decide (r.2.2.2.2.1 = 0)))))) = z
 cases z
 ·cases decide (r.1 ≥ 1)
  ·exact ⟨_, rfl⟩
  ·cases decide (r.1 ≤ 10)
   ·exact ⟨_, rfl⟩
   ·cases chk r.2.1
    ·exact ⟨_, rfl⟩
    ·cases decide (r.2.2.1 ≥ 0)
     ·exact ⟨_, rfl⟩
     ·cases decide (r.2.2.1 ≤ 1048576)
      ·exact ⟨_, rfl⟩
      ·cases decide (r.2.2.2.1 ≥ 0)
       ·exact ⟨_, rfl⟩
       ·cases decide (r.2.2.2.1 ≤ 1099511627776)
        ·exact ⟨_, rfl⟩
        ·cases decide (r.2.2.2.2.1 ≥ 0) <;> exact ⟨_, rfl⟩
 ·exact ⟨_, rfl⟩
theorem G12_t (r : Rg) : G12 (r, ()) = true := by
 obtain ⟨b, h⟩ := E12_t r
 show (E12 (r, ())).isSome = true
 rw [h]; rfl
abbrev Ca (a : KD6) (i : Nat) : (Unit × Int × KD6 × Unit) := ((), (i : Int), a, ())
theorem Vqa (a : KD6) {i : Nat} (hi : i < 11) : ∃ g : Bool, V6_0 (Ca a i) = some (bif g then .inl (Ca a (i + 1)) else .inr (.inr (false, ()))) ∧ (g = true → True) := by
 refine ⟨F12 (a.1.getD i dR, ()), ?_, fun _ => trivial⟩
 show R6_0 F12 G12 _ _ _ _ _ _ _ _ () (i : Int) a = _
 unfold R6_0
 have e1 : IntKind.wrap .i64 ((i : Int) + 1) = ((i + 1 : Nat) : Int) := by rw [wi64 (by omega)]; omega
 rw [e1, show Int.toNat (i : Int) = i by omega, decide_eq_true (show (i : Int) < 11 by omega), decide_eq_true (show 0 ≤ (i : Int) by omega), decide_eq_true hi, G12_t]
 cases F12 (a.1.getD i dR, ()) <;> rfl
theorem Vqb (a : KD6) {i : Nat} (hi : i < 64) : ∃ g : Bool, V6_2 (Ca a i) = some (bif g then .inl (Ca a (i + 1)) else .inr (.inr (false, ()))) ∧ (g = true → 0 ≤ (a.2.1.getD i dS).2.1 ∧ (a.2.1.getD i dS).2.1 ≤ 255) := by
 show ∃ g : Bool, R6_2 F12 G12 _ _ _ _ _ _ _ _ () (i : Int) a = some _ ∧ _
 unfold R6_2
 have e1 : IntKind.wrap .i64 ((i : Int) + 1) = ((i + 1 : Nat) : Int) := by rw [wi64 (by omega)]; omega
 rw [e1, show Int.toNat (i : Int) = i by omega, decide_eq_true (show (i : Int) < 64 by omega), decide_eq_true (show 0 ≤ (i : Int) by omega), decide_eq_true hi, G12_t]
 generalize a.2.1.getD i dS = x
 generalize F12 (x.2.2.1, ()) = w
 cases decide (x.1 < 0)
 ·cases decide (x.1 > 2)
  ·by_cases h3 : x.2.1 < 0
   ·rw [decide_eq_true h3]
    exact ⟨false, rfl, fun e => by cases e⟩
   ·rw [decide_eq_false h3]
    by_cases h4 : x.2.1 > 255
    ·rw [decide_eq_true h4]
     exact ⟨false, rfl, fun e => by cases e⟩
    ·rw [decide_eq_false h4]
     have hk : 0 ≤ x.2.1 ∧ x.2.1 ≤ 255 := ⟨by omega, by omega⟩
     cases w
     ·exact ⟨false, rfl, fun e => by cases e⟩
     ·cases decide (x.1 = 2)
      ·generalize (decide (x.2.2.1.1 = 0) && (((decide (x.2.2.1.2.1.1.1 = 0) && tt 1 (decide (x.2.2.1.2.1.1.2.1 = 0))) && (decide (x.2.2.1.2.1.2.1 = 0) && tt 1 (decide (x.2.2.1.2.1.2.2.1 = 0)))) && (decide (x.2.2.1.2.2.1 = 0) && (decide (x.2.2.1.2.2.2.1 = 0) && tt 1 (decide (x.2.2.1.2.2.2.2.1 = 0)))))) = z
       cases z
       ·exact ⟨false, rfl, fun e => by cases e⟩
       ·cases decide (x.1 = 0)
        ·exact ⟨true, rfl, fun _ => hk⟩
        ·cases decide (x.2.1 = 0)
         ·exact ⟨false, rfl, fun e => by cases e⟩
         ·exact ⟨true, rfl, fun _ => hk⟩
      ·cases decide (x.2.2.1.1 = 0)
       ·cases decide (x.2.1 = 0)
        ·exact ⟨false, rfl, fun e => by cases e⟩
        ·cases decide (x.1 = 0)
         ·exact ⟨true, rfl, fun _ => hk⟩
         ·exact ⟨true, rfl, fun _ => hk⟩
       ·exact ⟨false, rfl, fun e => by cases e⟩
  ·exact ⟨false, rfl, fun e => by cases e⟩
 ·exact ⟨false, rfl, fun e => by cases e⟩
abbrev Cb (a : KD6) (i k : Nat) : (Unit × Int × Int × KD6 × Unit) := ((), (i : Int), (k : Int), a, ())
theorem Vqe (a : KD6) {i k : Nat} (hl : a.2.2.2.1.length ≤ 1048576) (hi : i < a.2.2.2.1.length) (hk : k < i) : ∃ g : Bool, V6_6 (Cb a i k) = some (bif g then .inl (Cb a i (k + 1)) else .inr (.inr (false, ()))) ∧ (g = true → True) := by
 refine ⟨!(decide (a.2.2.2.1.getD k 0 = a.2.2.2.1.getD i 0)), ?_, fun _ => trivial⟩
 show R6_6 F12 G12 _ _ _ _ _ _ _ _ () (i : Int) (k : Int) a = _
 unfold R6_6
 have e1 : IntKind.wrap .i64 ((k : Int) + 1) = ((k + 1 : Nat) : Int) := by rw [wi64 (by omega)]; omega
 rw [e1, show Int.toNat (i : Int) = i by omega, show Int.toNat (k : Int) = k by omega, decide_eq_true (show (k : Int) < (i : Int) by omega), decide_eq_true (show 0 ≤ (i : Int) by omega), decide_eq_true (show 0 ≤ (k : Int) by omega), decide_eq_true (show (i : Int) < ((a.2.2.2.1.length : Nat) : Int) by omega), decide_eq_true (show (k : Int) < ((a.2.2.2.1.length : Nat) : Int) by omega)]
 cases decide (a.2.2.2.1.getD k 0 = a.2.2.2.1.getD i 0) <;> rfl
theorem Vqf (a : KD6) {i : Nat} : V6_6 (Cb a i i) = some (.inr (.inl ((), (i : Int), a, ()))) := by
 show R6_6 F12 G12 _ _ _ _ _ _ _ _ () (i : Int) (i : Int) a = _
 unfold R6_6
 rw [decide_eq_false (Int.lt_irrefl _)]; rfl
theorem Vqd (a : KD6) {i : Nat} (hl : a.2.2.2.1.length ≤ 1048576) (hi : i < a.2.2.2.1.length) : ∃ g : Bool, V6_4 (Ca a i) = some (bif g then .inl (Ca a (i + 1)) else .inr (.inr (false, ()))) ∧ (g = true → True) := by
 obtain ⟨g6, hw, _⟩ := lp_run (V := V6_6) (β := (Unit × Int × KD6 × Unit) ⊕ (Bool × Unit)) (st := fun k => Cb a i k) (bad := Sum.inr (false, ())) (good := Sum.inl ((), (i : Int), a, ())) (N := i) (Q := fun _ => True) (fun k hk => Vqe a hl hi hk) (Vqf a) i 0 (by omega)
 have k6 : Q6_6 ((), (i : Int), 0, a, ()) = true := whK_of hw
 have w6 : W6_6 ((), (i : Int), 0, a, ()) = _ := whV_of hw
 show ∃ g : Bool, R6_4 F12 G12 _ _ _ _ W6_6 Q6_6 _ _ () (i : Int) a = some _ ∧ _
 unfold R6_4
 have e1 : IntKind.wrap .i64 ((i : Int) + 1) = ((i + 1 : Nat) : Int) := by rw [wi64 (by omega)]; omega
 rw [show Int.toNat (i : Int) = i by omega, decide_eq_true (show 0 ≤ (i : Int) by omega), decide_eq_true (show (i : Int) < ((a.2.2.2.1.length : Nat) : Int) by omega), w6, k6]
 cases decide (a.2.2.2.1.getD i 0 < 1)
 ·cases decide (a.2.2.2.1.getD i 0 > 1099511627776)
  ·cases g6
   ·exact ⟨false, rfl, fun _ => trivial⟩
   ·refine ⟨true, ?_, fun _ => trivial⟩
    simp only [cond_true, cond_false, isL, getL, e1]
    rfl
  ·exact ⟨false, rfl, fun _ => trivial⟩
 ·exact ⟨false, rfl, fun _ => trivial⟩
theorem Vqg (a : KD6) : V6_4 (Ca a a.2.2.2.1.length) = some (.inr (.inl ((), a, ()))) := by
 show R6_4 F12 G12 _ _ _ _ W6_6 Q6_6 _ _ () ((a.2.2.2.1.length : Nat) : Int) a = _
 unfold R6_4
 rw [decide_eq_false (Int.lt_irrefl _)]; rfl
theorem E6_t (a : KD6) (hl : a.2.2.2.1.length ≤ 1048576) : ∃ b, E6 (a, ()) = some b ∧ (b = true → ∀ i, i < 64 → 0 ≤ (a.2.1.getD i dS).2.1 ∧ (a.2.1.getD i dS).2.1 ≤ 255) := by
 obtain ⟨g0, h0, _⟩ := lp_run (V := V6_0) (β := (Unit × KD6 × Unit) ⊕ (Bool × Unit)) (st := fun k => Ca a k) (bad := Sum.inr (false, ())) (good := Sum.inl ((), a, ())) (N := 11) (Q := fun _ => True) (fun i hi => Vqa a hi) rfl 11 0 (by omega)
 obtain ⟨g2, h2, q2⟩ := lp_run (V := V6_2) (β := (Unit × KD6 × Unit) ⊕ (Bool × Unit)) (st := fun k => Ca a k) (bad := Sum.inr (false, ())) (good := Sum.inl ((), a, ())) (N := 64) (Q := fun i => 0 ≤ (a.2.1.getD i dS).2.1 ∧ (a.2.1.getD i dS).2.1 ≤ 255) (fun i hi => Vqb a hi) rfl 64 0 (by omega)
 obtain ⟨g4, h4, _⟩ := lp_run (V := V6_4) (β := (Unit × KD6 × Unit) ⊕ (Bool × Unit)) (st := fun k => Ca a k) (bad := Sum.inr (false, ())) (good := Sum.inl ((), a, ())) (N := a.2.2.2.1.length) (Q := fun _ => True) (fun i hi => Vqd a hl hi) (Vqg a) a.2.2.2.1.length 0 (by omega)
 have k0 : Q6_0 ((), 0, a, ()) = true := whK_of h0
 have w0 : W6_0 ((), 0, a, ()) = _ := whV_of h0
 have k2 : Q6_2 ((), 0, a, ()) = true := whK_of h2
 have w2 : W6_2 ((), 0, a, ()) = _ := whV_of h2
 have k4 : Q6_4 ((), 0, a, ()) = true := whK_of h4
 have w4 : W6_4 ((), 0, a, ()) = _ := whV_of h4
 show ∃ b, S6 F12 G12 W6_0 Q6_0 W6_2 Q6_2 W6_6 Q6_6 W6_4 Q6_4 a = some b ∧ _
 unfold S6
 rw [w0, k0]
 cases g0
 ·exact ⟨false, rfl, fun e => by cases e⟩
 ·simp only [cond_true, isL, getL, w2, k2]
  cases g2
  ·exact ⟨false, rfl, fun e => by cases e⟩
  ·simp only [cond_true, isL, getL, w4, k4]
   have hq : ∀ i, i < 64 → 0 ≤ (a.2.1.getD i dS).2.1 ∧ (a.2.1.getD i dS).2.1 ≤ 255 := fun i hi => q2 rfl i (Nat.zero_le _) hi
   cases g4
   ·exact ⟨false, rfl, fun e => by cases e⟩
   ·simp only [cond_true, isL, getL]
    cases decide (a.2.2.1 ≥ 0)
    ·exact ⟨false, rfl, fun e => by cases e⟩
    ·cases decide (a.2.2.1 ≤ 1048576)
     ·exact ⟨false, rfl, fun e => by cases e⟩
     ·cases decide (a.2.2.2.2.1 ≥ 0)
      ·exact ⟨false, rfl, fun e => by cases e⟩
      ·exact ⟨_, rfl, fun _ => hq⟩
theorem F6_t (a : KD6) (hl : a.2.2.2.1.length ≤ 1048576) : G6 (a, ()) = true ∧ (F6 (a, ()) = true → ∀ i, i < 64 → 0 ≤ (a.2.1.getD i dS).2.1 ∧ (a.2.1.getD i dS).2.1 ≤ 255) := by
 obtain ⟨b, h, hq⟩ := E6_t a hl
 refine ⟨by show (E6 (a, ())).isSome = true; rw [h]; rfl, ?_⟩
 have hf : F6 (a, ()) = b := by show (E6 (a, ())).getD _ = _; rw [h]; rfl
 rw [hf]; exact hq
end Go.Proofs
