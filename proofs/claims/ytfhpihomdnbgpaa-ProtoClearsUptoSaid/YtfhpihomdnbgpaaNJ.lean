import Derived.Test.YtfhpihomdnbgpaaNI
namespace Go.Proofs
open Go.GX
set_option linter.unusedVariables false
set_option linter.unusedSimpArgs false
def run {α β : Type} (f : α → Option (α ⊕ β)) : Nat → α → Option β
 | 0, _ => none
 | n + 1, x => match f x with | some (.inl y) => run f n y | some (.inr z) => some z | none => none
theorem wh_of_run {α β : Type} {f : α → Option (α ⊕ β)} {y : β} : ∀ (n : Nat) {x : α}, run f n x = some y → wh f x = some y
 | 0, _, h => by cases h
 | n + 1, x, h => by
  unfold run at h
  split at h
  ·rename_i z hz
   rw [wh_next hz]; exact wh_of_run n h
  ·rename_i z hz
   cases h
   exact wh_stop hz
  ·cases h
theorem lp_q {α β : Type} {V : α → Option (α ⊕ β)} {st : Nat → α} {N : Nat} {Q : Nat → Prop} {R : β → Prop} {good : β}
 (hs : ∀ i, i < N → (V (st i) = some (.inl (st (i + 1))) ∧ Q i) ∨ ∃ y, V (st i) = some (.inr y) ∧ R y) (he : V (st N) = some (.inr good)) :
 ∀ n i, i + n = N → ∃ y, wh V (st i) = some y ∧ ((y = good ∧ ∀ j, i ≤ j → j < N → Q j) ∨ R y)
 | 0, i, hn => by
  have : i = N := by omega
  subst this
  exact ⟨good, wh_stop he, .inl ⟨rfl, fun j h1 h2 => by omega⟩⟩
 | n + 1, i, hn => by
  rcases hs i (by omega) with ⟨h, q⟩ | ⟨y, h, r⟩
  ·rw [wh_next h]
   obtain ⟨y, hy, h2⟩ := lp_q hs he n (i + 1) (by omega)
   refine ⟨y, hy, h2.imp (fun ⟨e, k⟩ => ⟨e, fun j hj hN => ?_⟩) id⟩
   rcases Nat.lt_or_ge i j with g | g
   ·exact k j (by omega) hN
   ·have : i = j := by omega
    subst this
    exact q
  ·exact ⟨y, wh_stop h, .inr r⟩
abbrev cl (s : KD6) (m : List Sp) (a k : List Int) : Cl := (s, (m, ((a, (k, ())), ())))
def ord (a : List Int) : List Int := if a = [0, 7, 6, 4] then [0, 2, 1, 3] else (List.range a.length).map (fun (i : Nat) => (i : Int))
theorem W17_0_e (s : KD6) (m : List Sp) {a : List Int} (k : List Int) (ha : a ∈ AL) :
 wh V17_0 ((), sec 0 ([] : List Int) 0 (Int.toNat ((a.length : Nat) : Int)), (((Int.toNat ((a.length : Nat) : Int)) : Nat) : Int), 0, cl s m a k, ()) = some ((), ord a, cl s m a k, ()) := by
 simp only [AL, List.mem_cons, List.not_mem_nil, or_false] at ha
 rcases ha with rfl | rfl | rfl | rfl | rfl | rfl | rfl | rfl | rfl | rfl <;> exact wh_of_run 6 (by kernel_rfl)
def okO (a o : List Int) : Bool := decide (o.length = a.length) && (List.range o.length).all (fun i => decide (0 ≤ o.getD i 0 ∧ o.getD i 0 < ((a.length : Nat) : Int))) && decide (a.length ≤ 5) && (List.range a.length).all (fun (i : Nat) => o.contains (i : Int))
theorem okO_all : ∀ a ∈ AL, okO a (ord a) = true := by decide
theorem E17_t (s : KD6) (m : List Sp) {a k : List Int} (ha : a ∈ AL) (hk : k.length ≤ 1048576) (hr : ∀ j, 0 ≤ (s.1.getD j dR).2.1.1.1) :
 ∃ e, E17 (cl s m a k) () = some e ∧ (e = 0 → ∀ j : Nat, j < a.length → (s.1.getD (j + 1) dR).1 ≠ 0 ∧ F37 (cl s m a k) (((j + 1 : Nat) : Int), a.getD j 0, ()) = 0) := by
 have hw0 := W17_0_e s m k ha
 rw [show Int.toNat ((a.length : Nat) : Int) = a.length by omega] at hw0
 have ho := okO_all a ha
 generalize ord a = o at *
 unfold okO at ho
 simp only [Bool.and_eq_true, decide_eq_true_eq, List.all_eq_true, List.mem_range] at ho
 obtain ⟨⟨⟨h1, h2⟩, h3⟩, h4⟩ := ho
 have hp : ∀ i, i < o.length → ∃ p : Nat, o.getD i 0 = (p : Int) ∧ p < a.length := fun i hi => ⟨(o.getD i 0).toNat, by have := h2 i hi; omega, by have := h2 i hi; omega⟩
 obtain ⟨y, hw, hy⟩ := lp_q (V := V17_2) (β := Unit ⊕ (Int × Unit)) (st := fun i => ((), o, ((o.length : Nat) : Int), (i : Int), cl s m a k, ())) (N := o.length) (good := .inl ())
  (Q := fun i => (s.1.getD ((o.getD i 0).toNat + 1) dR).1 ≠ 0 ∧ F37 (cl s m a k) ((((o.getD i 0).toNat + 1 : Nat) : Int), a.getD (o.getD i 0).toNat 0, ()) = 0) (R := fun y => ∃ e : Int, y = .inr (e, ()) ∧ e ≠ 0)
  (by
   intro i hi
   obtain ⟨p, hop, hpa⟩ := hp i hi
   have e1 : IntKind.wrap .i64 ((i : Int) + 1) = ((i + 1 : Nat) : Int) := by rw [wi64 (by omega)]; omega
   have e2 : IntKind.wrap .i64 ((p : Int) + 1) = ((p + 1 : Nat) : Int) := by rw [wi64 (by omega)]; omega
   obtain ⟨v, hv⟩ := E37_t (cl s m a k) (p + 1) (a.getD p 0) (by omega) hk hr
   have hF : F37 (cl s m a k) (((p + 1 : Nat) : Int), a.getD p 0, ()) = v := by show (E37 _ _).getD _ = _; rw [hv]; rfl
   have hG : G37 (cl s m a k) (((p + 1 : Nat) : Int), a.getD p 0, ()) = true := some_of ⟨v, hv⟩
   have hV : V17_2 ((), o, ((o.length : Nat) : Int), (i : Int), cl s m a k, ()) = (bif decide ((s.1.getD (p + 1) dR).1 = 0) then some (.inr (.inr (60, ()))) else bif !decide (v = 0) then some (.inr (.inr (v, ()))) else some (.inl ((), o, ((o.length : Nat) : Int), ((i + 1 : Nat) : Int), cl s m a k, ()))) := by
    show R17_2 F37 G37 _ _ _ _ () o ((o.length : Nat) : Int) (i : Int) (cl s m a k) = _
    unfold R17_2
    simp only [e1, show Int.toNat (i : Int) = i by omega, Nat.zero_add, hop, e2, show Int.toNat ((p + 1 : Nat) : Int) = p + 1 by omega, show Int.toNat (p : Int) = p by omega, hF, hG, sec_full rfl,
     decide_eq_true (show (i : Int) < ((o.length : Nat) : Int) by omega), decide_eq_true (show 0 ≤ (i : Int) by omega), decide_eq_true hi, decide_eq_true (show p + 1 < 11 by omega), decide_eq_true (show 0 ≤ ((p + 1 : Nat) : Int) by omega),
     decide_eq_true (show ((p + 1 : Nat) : Int) < 11 by omega), decide_eq_true (show 0 ≤ (p : Int) by omega), decide_eq_true (show (p : Int) < ((a.length : Nat) : Int) by omega), decide_eq_true (Nat.le_refl o.length)]
    rfl
   rw [hV]
   by_cases hz : (s.1.getD (p + 1) dR).1 = 0
   ·right
    rw [decide_eq_true hz]
    exact ⟨_, rfl, 60, rfl, by decide⟩
   ·rw [decide_eq_false hz]
    by_cases hv0 : v = 0
    ·left
     rw [decide_eq_true hv0]
     refine ⟨rfl, ?_⟩
     show (s.1.getD ((o.getD i 0).toNat + 1) dR).1 ≠ 0 ∧ F37 (cl s m a k) ((((o.getD i 0).toNat + 1 : Nat) : Int), a.getD (o.getD i 0).toNat 0, ()) = 0
     rw [hop, show Int.toNat (p : Int) = p by omega]
     exact ⟨hz, hF.trans hv0⟩
    ·right
     rw [decide_eq_false hv0]
     exact ⟨_, rfl, v, rfl, hv0⟩)
  (by
   show R17_2 F37 G37 _ _ _ _ () o ((o.length : Nat) : Int) ((o.length : Nat) : Int) (cl s m a k) = _
   unfold R17_2
   rw [decide_eq_false (Int.lt_irrefl _)]
   rfl) o.length 0 (by omega)
 have w0 : W17_0 ((), sec 0 ([] : List Int) 0 a.length, ((a.length : Nat) : Int), 0, cl s m a k, ()) = _ := whV_of (hd := hd17_0) (ys := ys17_0) (f := V17_0) hw0
 have k0 : Q17_0 ((), sec 0 ([] : List Int) 0 a.length, ((a.length : Nat) : Int), 0, cl s m a k, ()) = true := whK_of (hd := hd17_0) (ys := ys17_0) (f := V17_0) hw0
 have w2 : W17_2 ((), o, ((o.length : Nat) : Int), 0, cl s m a k, ()) = y := whV_of (hd := hd17_2) (ys := ys17_2) (f := V17_2) hw
 have k2 : Q17_2 ((), o, ((o.length : Nat) : Int), 0, cl s m a k, ()) = true := whK_of (hd := hd17_2) (ys := ys17_2) (f := V17_2) hw
 show ∃ e, S17 F37 G37 W17_0 Q17_0 W17_2 Q17_2 (cl s m a k) = some e ∧ _
 unfold S17
 simp only [w0, k0, sec_full rfl, w2, k2, Nat.zero_add, decide_eq_true (Nat.le_refl _), show Int.toNat ((a.length : Nat) : Int) = a.length by omega, decide_eq_true (Int.le_refl _), decide_eq_true (show 0 ≤ ((a.length : Nat) : Int) by omega),
  decide_eq_true (show 8 * ((a.length : Nat) : Int) ≤ 281474976710656 by omega), decide_eq_true (show ((a.length : Nat) : Int) ≤ 281474976710656 by omega)]
 rcases hy with ⟨rfl, hq⟩ | ⟨e, rfl, hne⟩
 ·refine ⟨0, rfl, fun _ j hj => ?_⟩
  have hc := h4 j hj
  rw [List.contains_iff_mem] at hc
  obtain ⟨i, hi, hij⟩ := List.mem_iff_getElem.1 hc
  have := hq i (Nat.zero_le _) hi
  have hg : o.getD i 0 = (j : Int) := by rw [List.getD_eq_getElem?_getD, List.getElem?_eq_getElem hi]; exact hij
  rw [hg, show Int.toNat (j : Int) = j by omega] at this
  exact this
 ·exact ⟨e, rfl, fun h => absurd h hne⟩
end Go.Proofs
