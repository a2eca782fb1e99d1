import Derived.Test.YtfhpihomdnbgpaaNH
namespace Go.Proofs
open Go.GX
set_option linter.unusedVariables false
set_option linter.unusedSimpArgs false
abbrev Cl := KD6 × KD26
theorem E46_t (l : List Int) (v : Int) (hl : l.length ≤ 1048576) : ∃ y, E46 (l, v, ()) = some y := by
 obtain ⟨y, hw⟩ := lp_tot (V := V46_0) (st := fun i => (l, v, ((l.length : Nat) : Int), (i : Int), ())) (N := l.length)
  (by
   intro i hi
   have e1 : IntKind.wrap .i64 ((i : Int) + 1) = ((i + 1 : Nat) : Int) := by rw [wi64 (by omega)]; omega
   have hV : V46_0 (l, v, ((l.length : Nat) : Int), (i : Int), ()) = (bif decide (v = l.getD i 0) then some (.inr (.inr ((i : Int), ()))) else some (.inl (l, v, ((l.length : Nat) : Int), ((i + 1 : Nat) : Int), ()))) := by
    show R46_0 _ _ l v ((l.length : Nat) : Int) (i : Int) = _
    unfold R46_0
    rw [e1, show Int.toNat (i : Int) = i by omega, decide_eq_true (show (i : Int) < ((l.length : Nat) : Int) by omega), decide_eq_true (show 0 ≤ (i : Int) by omega)]
    rfl
   rw [hV]
   cases decide (v = l.getD i 0)
   ·left; rfl
   ·right; exact ⟨_, rfl⟩)
  (by
   refine ⟨.inl (), ?_⟩
   show R46_0 _ _ l v ((l.length : Nat) : Int) ((l.length : Nat) : Int) = _
   unfold R46_0
   rw [decide_eq_false (Int.lt_irrefl _)]
   rfl) l.length 0 (by omega)
 have hV : W46_0 (l, v, ((l.length : Nat) : Int), 0, ()) = _ := whV_of (hd := hd46_0) (ys := ys46_0) (f := V46_0) hw
 have hQ : Q46_0 (l, v, ((l.length : Nat) : Int), 0, ()) = true := whK_of (hd := hd46_0) (ys := ys46_0) (f := V46_0) hw
 show ∃ y, S46 W46_0 Q46_0 l v = some y
 unfold S46
 rw [hV, hQ]
 rcases y with y | y <;> exact ⟨_, rfl⟩
theorem G25_t (l : List Int) (v : Int) (hl : l.length ≤ 1048576) : G25 (l, v, ()) = true := by
 obtain ⟨y, h⟩ := E46_t l v hl
 apply some_of
 show ∃ y, S25 F46 G46 l v = some y
 unfold S25
 rw [show G46 (l, v, ()) = true from (ofE (d := dflt (.int .i64)) h).2]
 exact ⟨_, rfl⟩
theorem G51_t (c : Cl) (r : Rg) : G51 c (r, ()) = true := by
 apply some_of
 show ∃ y, S51 c r = some y
 unfold S51
 by_cases h0 : r.2.2.1 < 0
 ·rw [decide_eq_true h0]
  cases decide (r.1 = 6) <;> exact ⟨_, rfl⟩
 ·by_cases h1 : r.2.2.1 ≥ ((c.2.1.length : Nat) : Int)
  ·rw [decide_eq_true h1]
   cases decide (r.1 = 6) <;> cases decide (r.2.2.1 < 0) <;> exact ⟨_, rfl⟩
  ·rw [decide_eq_true (show 0 ≤ r.2.2.1 by omega), decide_eq_true (show r.2.2.1 < ((c.2.1.length : Nat) : Int) by omega)]
   cases decide (r.1 = 6) <;> cases decide (r.2.2.1 < 0) <;> cases decide (r.2.2.1 ≥ ((c.2.1.length : Nat) : Int)) <;> exact ⟨_, rfl⟩
theorem G53_t (r : Rg) (k : Int) : G53 (r, k, ()) = true := by
 apply some_of
 show ∃ y, S53 F24 G24 r k = some y
 unfold S53
 simp only [(F24_e _).2, tt_eq, cond_true]
 repeat' (first | exact ⟨_, rfl⟩ | apply ex_bif)
theorem E37_t (c : Cl) (i : Nat) (w : Int) (hi : i ≤ 5) (hk : c.2.2.1.2.1.length ≤ 1048576) (hr : ∀ j, 0 ≤ (c.1.1.getD j dR).2.1.1.1) : ∃ v, E37 c ((i : Int), w, ()) = some v := by
 show ∃ v, S37 F24 G24 F25 G25 F51 G51 F52 G52 F53 G53 c (i : Int) w = some v
 unfold S37
 have e1 : IntKind.wrap .i64 ((i : Int) + 1) = ((i + 1 : Nat) : Int) := by rw [wi64 (by omega)]; omega
 have g52 : ∀ n b, G52 (c.1, c.2.1, c.1.1.getD i dR, n, b, ()) = true := fun n b => some_of (E52_t c.1 c.2.1 (c.1.1.getD i dR) n b (hr i))
 simp only [e1, show Int.toNat (i : Int) = i by omega, show Int.toNat ((i + 1 : Nat) : Int) = i + 1 by omega, decide_eq_true (show i < 11 by omega), decide_eq_true (show 0 ≤ (i : Int) by omega), decide_eq_true (show (i : Int) < 11 by omega),
  decide_eq_true (show i + 1 < 11 by omega), decide_eq_true (show 0 ≤ ((i + 1 : Nat) : Int) by omega), decide_eq_true (show ((i + 1 : Nat) : Int) < 11 by omega), g52, G51_t, G53_t, G25_t _ _ hk, (F24_e _).2, tt_eq, Bool.and_true, cond_true]
 repeat' (first | exact ⟨_, rfl⟩ | apply ex_bif)
end Go.Proofs
