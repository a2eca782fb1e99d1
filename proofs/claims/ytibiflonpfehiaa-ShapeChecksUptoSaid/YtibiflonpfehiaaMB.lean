import Derived.Test.YtibiflonpfehiaaM
namespace Go.Proofs
open Go.GX
set_option linter.unusedVariables false
set_option linter.unusedSimpArgs false
/-! ## Where instructions begin -/
theorem V18_in {l : List In} {b : List Bool} {k : Nat} (hk : k < l.length) (hb : b.length = l.length) (hl : l.length ≤ 4096) :
    V18_0 (l, b, (k : Int), ()) = some (bif okAt l k then .inl (l, b.set k true, ((k + lng (l.getD k z0) : Nat) : Int), ()) else .inr (.inr ([], (k : Int), ()))) := by
  unfold V18_0 R18_0
  dsimp only
  have hp := lng_pos (l.getD k z0)
  have e1 : IntKind.wrap .i64 ((k : Int) + 1) = ((k + 1 : Nat) : Int) := by rw [wi64 (by omega)]; omega
  have e2 : IntKind.wrap .i64 ((k : Int) + (lng (l.getD k z0) : Int)) = ((k + lng (l.getD k z0) : Nat) : Int) := by rw [wi64 (by omega)]; omega
  have e3 : sec false (lset false b (0 + k) true) 0 b.length = b.set k true := by
    rw [show 0 + k = k by omega, lset_eq (by omega)]
    exact sec_full (by simp)
  rw [show Int.toNat (k : Int) = k by omega, e3, e1, show Int.toNat ((k + 1 : Nat) : Int) = k + 1 by omega]
  simp only [F23_e, G23_t, G17_t, (F22_e _).1, (F22_e _).2, e2]
  rw [decide_eq_true (show (k : Int) < ((l.length : Nat) : Int) by omega), decide_eq_true (show (0 : Int) ≤ (k : Int) by omega), decide_eq_true (show (k : Int) < ((b.length : Nat) : Int) by omega), decide_eq_true (show 0 + k < b.length by omega), decide_eq_true (show 0 + b.length ≤ b.length by omega),
    decide_eq_true (show (0 : Int) ≤ ((k + 1 : Nat) : Int) by omega)]
  unfold okAt sec2 wd one
  cases F17 (l.getD k z0, ())
  · rfl
  · cases hw : decide ((l.getD k z0).1 = 24)
    · rfl
    · by_cases h2 : k + 1 < l.length
      · rw [decide_eq_true (show ((k + 1 : Nat) : Int) < ((l.length : Nat) : Int) by omega), decide_eq_true h2]
        generalize l.getD (k + 1) z0 = j
        generalize (decide (j.1 = 0) && (decide (j.2.1 = 0) && (decide (j.2.2.1 = 0) && tt 1 (decide (j.2.2.2.1 = 0))))) = p
        generalize decide (IntKind.wrap .i64 (IntKind.wrap .i32 j.2.2.2.2.1) = j.2.2.2.2.1) = q
        generalize decide ((l.getD k z0).2.2.1 = 0) = r
        generalize decide (j.2.2.2.2.1 = 0) = s
        cases p <;> cases q <;> cases r <;> cases s <;> rfl
      · rw [decide_eq_false (show ¬ ((k + 1 : Nat) : Int) < ((l.length : Nat) : Int) by omega), decide_eq_false h2]
        rfl
theorem V18_end {l : List In} {b : List Bool} {k : Nat} (hk : l.length ≤ k) : V18_0 (l, b, (k : Int), ()) = some (.inr (.inl (b, ()))) := by
  unfold V18_0 R18_0
  dsimp only
  refine (bif_f (decide_eq_false (by omega))).trans ?_
  rw [sec_full rfl, decide_eq_true (show 0 + b.length ≤ b.length by omega)]
  rfl
noncomputable def bgn (l : List In) : Nat → Nat → List Bool → List Bool ⊕ Nat
  | 0, _, b => .inl b
  | f + 1, k, b => bif decide (k < l.length) then (bif okAt l k then bgn l f (k + lng (l.getD k z0)) (b.set k true) else .inr k) else .inl b
def outB : List Bool ⊕ Nat → ((List Bool) × Unit) ⊕ ((List Bool) × Int × Unit)
  | .inl b => .inl (b, ())
  | .inr k => .inr ([], (k : Int), ())
theorem W18_run {l : List In} (hl : l.length ≤ 4096) : ∀ (f k : Nat) (b : List Bool), b.length = l.length → l.length ≤ k + f → wh V18_0 (l, b, (k : Int), ()) = some (outB (bgn l f k b))
  | 0, k, b, hb, hf => wh_stop (V18_end (by omega))
  | f + 1, k, b, hb, hf => by
    simp only [bgn]
    by_cases hk : k < l.length
    · rw [decide_eq_true hk]
      cases ho : okAt l k
      · have := V18_in hk hb hl
        rw [ho] at this
        exact wh_stop this
      · have := V18_in hk hb hl
        rw [ho] at this
        have hp := lng_pos (l.getD k z0)
        exact (wh_next this).trans (W18_run hl f _ _ (by simpa using hb) (by omega))
    · rw [decide_eq_false hk]
      exact wh_stop (V18_end (by omega))
noncomputable def bg (l : List In) : List Bool ⊕ Nat := bgn l l.length 0 (List.replicate l.length false)
def resB : List Bool ⊕ Nat → List Bool × Int × Unit
  | .inl b => (b, -1, ())
  | .inr k => ([], (k : Int), ())
theorem E18_eq {l : List In} (hl : l.length ≤ 4096) : E18 (l, ()) = some (resB (bg l)) := by
  show S18 F17 G17 F22 G22 F23 G23 W18_0 Q18_0 l = _
  unfold S18
  have h0 : sec false ([] : List Bool) 0 (Int.toNat ((l.length : Nat) : Int)) = List.replicate l.length false := by rw [show Int.toNat ((l.length : Nat) : Int) = l.length by omega]; exact sec_nil
  rw [h0]
  have hw := W18_run hl l.length 0 (List.replicate l.length false) (by simp) (by omega)
  have e1 : W18_0 (l, List.replicate l.length false, 0, ()) = outB (bg l) := whV_of (hd := hd18_0) (ys := ys18_0) hw
  have e2 : Q18_0 (l, List.replicate l.length false, 0, ()) = true := whK_of (hd := hd18_0) (ys := ys18_0) hw
  rw [e1, e2]
  rw [decide_eq_true (show (0 : Int) ≤ ((l.length : Nat) : Int) by omega), decide_eq_true (show ((l.length : Nat) : Int) ≤ ((l.length : Nat) : Int) by omega), show Int.toNat ((l.length : Nat) : Int) = l.length by omega,
    decide_eq_true (show 0 + l.length ≤ l.length by omega), decide_eq_true (show 1 * ((l.length : Nat) : Int) ≤ 281474976710656 by omega), decide_eq_true (show ((l.length : Nat) : Int) ≤ 281474976710656 by omega)]
  cases bg l with
  | inl b =>
    unfold outB
    show (bif _ then (bif _ then some (sec false b 0 b.length, -1, ()) else none) else _) = _
    rw [sec_full rfl]
    have : decide (0 + b.length ≤ b.length) = true := decide_eq_true (by omega)
    simp only [show isL (β := (List Bool) × Int × Unit) (Sum.inl (b, ())) = true from rfl]
    refine (bif_t rfl).trans ((bif_t ?_).trans rfl)
    simp [getL]
  | inr k => rfl
/-! ## What is known where they begin -/
structure BI (l : List In) (b : List Bool) (k : Nat) : Prop where
  len : b.length = l.length
  hi : ∀ j, k ≤ j → b.getD j false = false
  ok : ∀ j, b.getD j false = true → j < k ∧ okAt l j = true ∧ (j + lng (l.getD j z0) = k ∨ (j + lng (l.getD j z0) < k ∧ b.getD (j + lng (l.getD j z0)) false = true)) ∧ (wd (l.getD j z0) = true → b.getD (j + 1) false = false)
  z : k = 0 ∨ b.getD 0 false = true
  le : k ≤ l.length
theorem getD_set {b : List Bool} {k j : Nat} (hk : k < b.length) : (b.set k true).getD j false = if j = k then true else b.getD j false := by
  by_cases e : j = k
  · subst e; rw [if_pos rfl]; simp [List.getD, hk]
  · rw [if_neg e]; simp [List.getD, List.getElem?_set_ne (Ne.symm e)]
theorem lng_wd {i : In} : lng i = 2 ∧ wd i = true ∨ lng i = 1 ∧ wd i = false := by unfold lng; cases wd i <;> simp
theorem BI.step {l : List In} {b : List Bool} {k : Nat} (h : BI l b k) (hk : k < l.length) (ho : okAt l k = true) : BI l (b.set k true) (k + lng (l.getD k z0)) := by
  have hkb : k < b.length := by rw [h.len]; exact hk
  have hp := lng_pos (l.getD k z0)
  refine ⟨by simpa using h.len, fun j hj => ?_, fun j hj => ?_, .inr ?_, ?_⟩
  · rw [getD_set hkb, if_neg (by omega)]; exact h.hi j (by omega)
  · rw [getD_set hkb] at hj
    by_cases e : j = k
    · subst e
      refine ⟨by omega, ho, .inl rfl, fun hw => ?_⟩
      rw [getD_set hkb, if_neg (by omega)]; exact h.hi _ (by omega)
    · rw [if_neg e] at hj
      obtain ⟨h1, h2, h3, h4⟩ := h.ok j hj
      refine ⟨by omega, h2, .inr ?_, fun hw => ?_⟩
      · rcases h3 with h3 | ⟨h3, h5⟩
        · exact ⟨by omega, by rw [getD_set hkb, if_pos h3]⟩
        · refine ⟨by omega, ?_⟩
          rw [getD_set hkb, if_neg (by omega)]; exact h5
      · have hl2 : lng (l.getD j z0) = 2 := by rcases lng_wd (i := l.getD j z0) with h | h <;> simp_all
        rw [getD_set hkb, if_neg (by rcases h3 with h3 | ⟨h3, _⟩ <;> omega)]
        exact h4 hw
  · rw [getD_set hkb]
    rcases h.z with e | e
    · rw [if_pos e.symm]
    · rw [e]; simp
  · unfold okAt at ho
    rcases lng_wd (i := l.getD k z0) with ⟨h1, h2⟩ | ⟨h1, h2⟩
    · rw [h2] at ho
      simp only [Bool.not_true, Bool.false_or, Bool.and_eq_true, decide_eq_true_eq] at ho
      omega
    · omega
theorem bgn_BI {l : List In} : ∀ (f k : Nat) (b b' : List Bool), BI l b k → l.length ≤ k + f → bgn l f k b = .inl b' → BI l b' l.length
  | 0, k, b, b', h, hf, e => by
    simp only [bgn, Sum.inl.injEq] at e
    subst e
    have := h.le
    have : k = l.length := by omega
    rw [← this]; exact h
  | f + 1, k, b, b', h, hf, e => by
    simp only [bgn] at e
    by_cases hk : k < l.length
    · rw [decide_eq_true hk] at e
      cases ho : okAt l k <;> rw [ho] at e
      · cases e
      · have hp := lng_pos (l.getD k z0)
        exact bgn_BI f _ _ b' (h.step hk ho) (by omega) e
    · rw [decide_eq_false hk] at e
      cases e
      have := h.le
      have : k = l.length := by omega
      rw [← this]; exact h
theorem bg_BI {l : List In} {b : List Bool} (h : bg l = .inl b) : BI l b l.length := by
  refine bgn_BI l.length 0 _ b ⟨by simp, fun j _ => ?_, fun j hj => ?_, .inl rfl, by omega⟩ (by omega) h
  · by_cases hj : j < l.length
    · simp [List.getD, hj]
    · simp [List.getD, hj]
  · have : (List.replicate l.length false).getD j false = false := by
      by_cases hj : j < l.length
      · simp [List.getD, hj]
      · simp [List.getD, hj]
    rw [this] at hj; cases hj
end Go.Proofs
