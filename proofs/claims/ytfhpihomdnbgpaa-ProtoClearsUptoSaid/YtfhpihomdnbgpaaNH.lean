import Derived.Test.YtfhpihomdnbgpaaNR
namespace Go.Proofs
open Go.GX
set_option linter.unusedVariables false
set_option linter.unusedSimpArgs false
theorem lp_tot {α β : Type} {V : α → Option (α ⊕ β)} {st : Nat → α} {N : Nat}
 (hs : ∀ i, i < N → V (st i) = some (.inl (st (i + 1))) ∨ ∃ y, V (st i) = some (.inr y)) (he : ∃ y, V (st N) = some (.inr y)) :
 ∀ n i, i + n = N → ∃ y, wh V (st i) = some y
 | 0, i, hn => by
  have : i = N := by omega
  subst this
  obtain ⟨y, hy⟩ := he
  exact ⟨y, wh_stop hy⟩
 | n + 1, i, hn => by
  rcases hs i (by omega) with h | ⟨y, h⟩
  ·rw [wh_next h]
   exact lp_tot hs he n (i + 1) (by omega)
  ·exact ⟨y, wh_stop h⟩
def P65 (o : Option (Int ⊕ Unit)) : Prop := o = some (.inl 62) ∨ o = some (.inl 61) ∨ o = some (.inr ())
theorem P65_bif {b : Bool} {x y : Option (Int ⊕ Unit)} (hx : P65 x) (hy : P65 y) : P65 (bif b then x else y) := by cases b <;> assumption
theorem E65_t (s : KD6) (l : List Sp) (r : Rg) (n : Int) : P65 (E65 (s, l, r, n, ())) := by
 show P65 (S65 V57 K57 Q57_0 s l r n)
 unfold S65
 simp only [Q57_eq, K57_eq]
 by_cases h0 : 0 ≤ r.2.2.1
 ·by_cases h1 : r.2.2.1 < ((l.length : Nat) : Int)
  ·simp only [decide_eq_true h0, decide_eq_true h1, decide_eq_true (show r.2.2.1 ≥ 0 from h0)]
   generalize decide (n ≤ _) = b1
   generalize decide (n ≤ _) = b2
   generalize decide (n ≤ _) = b3
   generalize decide (_ ≤ (536870912 : Int)) = b4
   cases b1 <;> cases b2 <;> cases b3 <;> repeat' (first | exact .inl rfl | exact .inr (.inl rfl) | exact .inr (.inr rfl) | apply P65_bif)
  ·simp only [decide_eq_true h0, decide_eq_false h1, decide_eq_true (show r.2.2.1 ≥ 0 from h0)]
   generalize decide (n ≤ _) = b1
   generalize decide (n ≤ _) = b2
   generalize decide (n ≤ _) = b3
   generalize decide (_ ≤ (536870912 : Int)) = b4
   cases b1 <;> cases b2 <;> cases b3 <;> repeat' (first | exact .inl rfl | exact .inr (.inl rfl) | exact .inr (.inr rfl) | apply P65_bif)
 ·simp only [decide_eq_false (show ¬ r.2.2.1 ≥ 0 from h0)]
  generalize decide (n ≤ _) = b1
  generalize decide (n ≤ _) = b2
  generalize decide (n ≤ _) = b3
  generalize decide (_ ≤ (536870912 : Int)) = b4
  cases b1 <;> cases b2 <;> cases b3 <;> repeat' (first | exact .inl rfl | exact .inr (.inl rfl) | exact .inr (.inr rfl) | apply P65_bif)
theorem P65_e (s : KD6) (l : List Sp) (r : Rg) (n : Int) : Q65_0 (s, l, r, n, ()) = true ∨ (Q65_0 (s, l, r, n, ()) = false ∧ Q65_1 (s, l, r, n, ()) = true) ∨ (Q65_0 (s, l, r, n, ()) = false ∧ Q65_1 (s, l, r, n, ()) = false ∧ K65 (s, l, r, n, ()) = true) := by
 unfold Q65_0 Q65_1 K65 panQ panK
 rcases E65_t s l r n with h | h | h <;> rw [h]
 ·exact .inl rfl
 ·exact .inr (.inl ⟨rfl, rfl⟩)
 ·exact .inr (.inr ⟨rfl, rfl, rfl⟩)
def onB (x : Sc) : Int × (Bool × Unit) := bif decide (x.1.2.1 = 0) then (x.1.1, (true, ())) else (0, (false, ()))
theorem E24_eq (x : Sc) : E24 (x, ()) = some (onB x) := by
 show S24 x = _
 unfold S24 onB
 cases decide (x.1.2.1 = 0) <;> rfl
theorem F24_e (x : Sc) : F24 (x, ()) = onB x ∧ G24 (x, ()) = true := ofE (E24_eq x)
theorem P66_e (x : Sc) (n : Int) (h0 : 0 ≤ x.1.1) : Q66_0 (x, n, ()) = true ∨ (Q66_0 (x, n, ()) = false ∧ K66 (x, n, ()) = true ∧ 0 ≤ V66 (x, n, ())) := by
 unfold Q66_0 K66 V66 panQ panK panV
 have e : E66 (x, n, ()) = S66 F24 G24 V57 K57 Q57_0 x n := rfl
 rw [e]
 unfold S66
 simp only [Q57_eq, K57_eq, (F24_e _).1, (F24_e _).2]
 unfold onB
 cases decide (x.1.2.1 = 0)
 ·left; simp
 ·right
  refine ⟨rfl, rfl, ?_⟩
  show 0 ≤ IntKind.wrap .i64 (if 1073741824 < x.1.1 then 1073741824 else x.1.1)
  rw [wi64 (by split <;> omega)]
  split <;> omega
theorem E52_t (s : KD6) (l : List Sp) (r : Rg) (n : Int) (w : Bool) (h0 : 0 ≤ r.2.1.1.1) : ∃ v, E52 (s, l, r, n, w, ()) = some v := by
 show ∃ v, S52 V57 K57 Q57_0 V65 K65 Q65_0 Q65_1 V66 K66 Q66_0 V67 K67 Q67_0 Q67_1 W52_0 Q52_0 s l r n w = some v
 unfold S52
 simp only [Q57_eq, K57_eq]
 cases decide (r.1 = 0)
 ·by_cases h1 : n ≥ 1
  ·rw [decide_eq_true h1]
   cases decide (r.1 = 3)
   ·rcases P65_e s l r n with h | ⟨h, k⟩ | ⟨h, k, g⟩
    ·rw [h]; exact ⟨_, rfl⟩
    ·rw [h, k]; exact ⟨_, rfl⟩
    ·rw [h, k, g]; exact ⟨_, rfl⟩
   ·rcases P66_e r.2.1 61 h0 with h | ⟨h, k, g⟩
    ·rw [h]; exact ⟨_, rfl⟩
    ·rw [h, k]
     generalize V66 (r.2.1, 61, ()) = o at *
     by_cases h2 : o ≤ 512
     ·rw [decide_eq_true h2, wi64 (by omega)]
      by_cases h3 : n ≤ 512 - o
      ·rw [decide_eq_true h3]
       obtain ⟨p, rfl⟩ : ∃ p : Nat, o = (p : Int) := ⟨o.toNat, by omega⟩
       obtain ⟨c, rfl⟩ : ∃ c : Nat, n = (c : Int) := ⟨n.toNat, by omega⟩
       obtain ⟨y, hw⟩ := lp_tot (V := V52_0) (st := fun i => (w, (), (), (p : Int), (c : Int), (i : Int), s, 0, ())) (N := c)
        (by
         intro i hi
         obtain ⟨q0, q1, k0⟩ := P24_e s (p := p + i) (by omega)
         have e1 : IntKind.wrap .i64 ((i : Int) + 1) = ((i + 1 : Nat) : Int) := by rw [wi64 (by omega)]; omega
         have e2 : IntKind.wrap .i64 ((p : Int) + (i : Int)) = ((p + i : Nat) : Int) := by rw [wi64 (by omega)]; omega
         have hV : V52_0 (w, (), (), (p : Int), (c : Int), (i : Int), s, 0, ()) = (bif !w then (bif Q67_0 (s, ((p + i : Nat) : Int), ()) then some (.inr (.inr (.inr ((), 0, ())))) else bif Q67_1 (s, ((p + i : Nat) : Int), ()) then some (.inr (.inr (.inl ((), 0, ())))) else bif tt 2 (K67 (s, ((p + i : Nat) : Int), ())) then some (.inl (w, (), (), (p : Int), (c : Int), ((i + 1 : Nat) : Int), s, 0, ())) else none) else some (.inl (w, (), (), (p : Int), (c : Int), ((i + 1 : Nat) : Int), s, 0, ()))) := by
          show R52_0 V57 K57 Q57_0 V65 K65 Q65_0 Q65_1 V66 K66 Q66_0 V67 K67 Q67_0 Q67_1 _ _ w () () (p : Int) (c : Int) (i : Int) s 0 = _
          unfold R52_0
          rw [decide_eq_true (show (i : Int) < (c : Int) by omega), e1, e2]
          rfl
         rw [hV, q0, q1, k0]
         cases w
         ·cases hh : hld (s.2.1.getD ((p + i) / 8) dS) (p + i) with
          | none => left; rfl
          | some d =>
           right
           rcases hld_c hh with rfl | rfl <;> exact ⟨_, rfl⟩
         ·left; rfl)
        (by
         refine ⟨.inl ((), 0, ()), ?_⟩
         show R52_0 V57 K57 Q57_0 V65 K65 Q65_0 Q65_1 V66 K66 Q66_0 V67 K67 Q67_0 Q67_1 _ _ w () () (p : Int) (c : Int) (c : Int) s 0 = _
         unfold R52_0
         rw [decide_eq_false (Int.lt_irrefl _)]
         rfl) c 0 (by omega)
       have hV : W52_0 (w, (), (), (p : Int), (c : Int), 0, s, 0, ()) = _ := whV_of (hd := hd52_0) (ys := ys52_0) (f := V52_0) hw
       have hQ : Q52_0 (w, (), (), (p : Int), (c : Int), 0, s, 0, ()) = true := whK_of (hd := hd52_0) (ys := ys52_0) (f := V52_0) hw
       rw [hV, hQ]
       rcases y with y | y | y <;> exact ⟨_, rfl⟩
      ·rw [decide_eq_false h3]; exact ⟨_, rfl⟩
     ·rw [decide_eq_false h2]; exact ⟨_, rfl⟩
  ·rw [decide_eq_false h1]; exact ⟨_, rfl⟩
 ·exact ⟨_, rfl⟩
end Go.Proofs
