import Derived.Test.YtjnbpklllapjiaaNF
import Derived.Test.YtjnbpklllapjiaaGe
namespace Go.Proofs
open Go.GX
set_option linter.unusedVariables false
set_option linter.unusedSimpArgs false
/-! ## Whether two states are the same -/
theorem lp_run2 {α β : Type} {V : α → Option (α ⊕ β)} {st : Nat → α} {bad good : β} {N : Nat} {Q : Nat → Prop}
    (hs : ∀ i, i < N → ∃ g : Bool, V (st i) = some (bif g then .inl (st (i + 1)) else .inr bad) ∧ (g = true ↔ Q i)) (he : V (st N) = some (.inr good)) :
    ∀ n i, i + n = N → ∃ g : Bool, wh V (st i) = some (bif g then good else bad) ∧ (g = true ↔ ∀ j, i ≤ j → j < N → Q j)
  | 0, i, hn => by
    have : i = N := by omega
    subst this
    exact ⟨true, wh_stop he, fun _ j h1 h2 => by omega, fun _ => rfl⟩
  | n + 1, i, hn => by
    obtain ⟨g, hV, hQ⟩ := hs i (by omega)
    cases g with
    | false => exact ⟨false, wh_stop hV, ⟨fun e => (by cases e), fun h => hQ.2 (h i (Nat.le_refl _) (by omega))⟩⟩
    | true =>
      obtain ⟨g2, h1, h2⟩ := lp_run2 hs he n (i + 1) (by omega)
      refine ⟨g2, by rw [wh_next hV]; exact h1, fun e j hj hN => ?_, fun h => h2.2 (fun j hj hN => h j (by omega) hN)⟩
      rcases Nat.lt_or_ge i j with h | h
      · exact h2.1 e j (by omega) hN
      · have : i = j := by omega
        subst this
        exact hQ.1 rfl
theorem list_eq {l m : List Int} (hl : l.length = m.length) : (∀ j, 0 ≤ j → j < l.length → l.getD j 0 = m.getD j 0) ↔ l = m := by
  constructor
  · intro h
    apply List.ext_getElem hl
    intro i h1 h2
    have := h i (Nat.zero_le _) h1
    simpa [List.getD, h1, h2] using this
  · intro h j _ _
    rw [h]
def sameV (a b : KD6) : Bool := eqb (.arr 11 KT18) a.1 b.1 && (eqb (.arr 64 KT20) a.2.1 b.2.1 && (decide (a.2.2.1 = b.2.2.1) && (decide (a.2.2.2.2.1 = b.2.2.2.2.1) && decide (a.2.2.2.1 = b.2.2.2.1))))
theorem E12_eq {a b : KD6} (hl : a.2.2.2.1.length ≤ 1048576) : E12 (a, b, ()) = some (sameV a b) := by
  show S12 W12_0 Q12_0 a b = _
  unfold S12 sameV
  by_cases hlm : a.2.2.2.1.length = b.2.2.2.1.length
  · obtain ⟨g, hw, hg⟩ := lp_run2 (V := V12_0) (β := Unit ⊕ (Bool × Unit)) (st := fun i => ((), (), (i : Int), a, b, ())) (bad := Sum.inr (false, ())) (good := Sum.inl ()) (N := a.2.2.2.1.length) (Q := fun i => a.2.2.2.1.getD i 0 = b.2.2.2.1.getD i 0)
      (fun i hi => by
        refine ⟨decide (a.2.2.2.1.getD i 0 = b.2.2.2.1.getD i 0), ?_, decide_eq_true_iff⟩
        show R12_0 _ _ () () (i : Int) a b = _
        unfold R12_0
        have e1 : IntKind.wrap .i64 ((i : Int) + 1) = ((i + 1 : Nat) : Int) := by rw [wi64 (by omega)]; omega
        rw [e1, show Int.toNat (i : Int) = i by omega, ← hlm, decide_eq_true (show (i : Int) < ((a.2.2.2.1.length : Nat) : Int) by omega), decide_eq_true (show 0 ≤ (i : Int) by omega)]
        cases decide (a.2.2.2.1.getD i 0 = b.2.2.2.1.getD i 0) <;> rfl)
      (by
        show R12_0 _ _ () () ((a.2.2.2.1.length : Nat) : Int) a b = _
        unfold R12_0
        rw [decide_eq_false (Int.lt_irrefl _)]; rfl) a.2.2.2.1.length 0 (by omega)
    have k : Q12_0 ((), (), 0, a, b, ()) = true := whK_of hw
    have w : W12_0 ((), (), 0, a, b, ()) = _ := whV_of hw
    have hgd : g = decide (a.2.2.2.1 = b.2.2.2.1) := by
      rw [Bool.eq_iff_iff, decide_eq_true_iff, hg]
      exact list_eq hlm
    rw [decide_eq_true (show ((a.2.2.2.1.length : Nat) : Int) = ((b.2.2.2.1.length : Nat) : Int) by omega), w, k, ← hgd]
    cases eqb (.arr 11 KT18) a.1 b.1
    · rfl
    · cases eqb (.arr 64 KT20) a.2.1 b.2.1
      · rfl
      · cases decide (a.2.2.1 = b.2.2.1)
        · rfl
        · cases decide (a.2.2.2.2.1 = b.2.2.2.2.1)
          · rfl
          · cases g <;> rfl
  · rw [decide_eq_false (show ¬ ((a.2.2.2.1.length : Nat) : Int) = ((b.2.2.2.1.length : Nat) : Int) by omega), decide_eq_false (show ¬ a.2.2.2.1 = b.2.2.2.1 from fun e => hlm (by rw [e]))]
    simp
theorem F12_e {a b : KD6} (hl : a.2.2.2.1.length ≤ 1048576) : F12 (a, b, ()) = sameV a b ∧ G12 (a, b, ()) = true := ofE (E12_eq hl)
theorem eqb_self : ∀ (t : Ty) (x : t.den), eqb t x x = true
  | .bool, x => by simp [eqb]
  | .int _, x => by simp [eqb]
  | .str, x => by simp [eqb]
  | .pair a b, x => by simp [eqb, eqb_self a, eqb_self b]
  | .arr n e, x => by simp [eqb, eqb_self e]
  | .ptr, _ | .slice, _ | .func, _ | .iface, _ | .map, _ | .vsl _, _ | .vptr _, _ | .unit, _ | .tnil, _ | .tup _ _, _ => rfl
theorem sameV_self (a : KD6) : sameV a a = true := by
  unfold sameV
  rw [eqb_self, eqb_self, decide_eq_true rfl, decide_eq_true rfl, decide_eq_true rfl]; rfl
/-! ## The beginning, a copy -/
theorem F26_e (v : Int) : F26 (v, ()) = cns v ∧ G26 (v, ()) = true := ⟨rfl, rfl⟩
/-! ## The law -/
theorem getD_lt' {α : Type} {d : α} {l : List α} {i : Nat} (h : i < l.length) : l.getD i d = l[i] := by simp [List.getD, h]
end Go.Proofs
