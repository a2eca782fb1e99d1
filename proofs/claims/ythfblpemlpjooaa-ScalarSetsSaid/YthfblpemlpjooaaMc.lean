import Derived.Test.YthfblpemlpjooaaMb
namespace Go.Proofs
open Go.GX
set_option linter.unusedVariables false
set_option linter.unusedSimpArgs false
def eqS (a b : Sc) : Bool := (decide (a.1.1 = b.1.1) && tt 1 (decide (a.1.2.1 = b.1.2.1))) && (decide (a.2.1 = b.2.1) && tt 1 (decide (a.2.2.1 = b.2.2.1)))
theorem eqS_iff {a b : Sc} : eqS a b = true ↔ a = b := by
  obtain ⟨⟨a1, a2, _⟩, a3, a4, _⟩ := a
  obtain ⟨⟨b1, b2, _⟩, b3, b4, _⟩ := b
  simp [eqS]
theorem eqS_self (a : Sc) : eqS a a = true := eqS_iff.2 rfl
def chk (s : Sc) : Bool := match tgt s with | some t => eqS t s | none => false
theorem E17_eq (s : Sc) : E17 (s, ()) = some (chk s) := by
  show S17 F13 G13 s = _
  unfold S17 chk
  rw [(F13_eq s).1, (F13_eq s).2]
  cases tgt s <;> rfl
theorem E18_eq (s : Sc) : E18 (s, ()) = some (chk s) := by
  show S18 F14 G14 s = _
  unfold S18 chk
  rw [(F14_eq s).1, (F14_eq s).2]
  cases tgt s <;> rfl
theorem F17_eq (s : Sc) : F17 (s, ()) = chk s ∧ G17 (s, ()) = true := ofE (E17_eq s)
theorem F18_eq (s : Sc) : F18 (s, ()) = chk s ∧ G18 (s, ()) = true := ofE (E18_eq s)
def cns (v : Int) : Sc := ((v, 0, ()), v, v, ())
theorem F24_eq (v : Int) : F24 (v, ()) = cns v ∧ G24 (v, ()) = true := ⟨rfl, rfl⟩
def prep (s : Sc) : Sc := if s.2.1 > s.2.2.1 then ((iandn .u64 s.1.1 s.1.2.1, s.1.2), s.2.2.1, s.2.1, s.2.2.2) else ((iandn .u64 s.1.1 s.1.2.1, s.1.2), s.2)
def wideF (s : Sc) : Sc := match tgt (prep s) with | some t => if chk t = true then t else cns (iandn .u64 s.1.1 s.1.2.1) | none => cns (iandn .u64 s.1.1 s.1.2.1)
theorem E7_eq (s : Sc) : E7 (s, ()) = some (wideF s) := by
  show S7 F14 G14 F18 G18 F24 G24 s = _
  unfold S7 wideF prep
  by_cases h : s.2.1 > s.2.2.1
  · rw [if_pos h]
    refine (bif_t (decide_eq_true h)).trans ?_
    rw [(F14_eq _).1, (F14_eq _).2, (F24_eq _).1, (F24_eq _).2]
    cases hx : tgt ((iandn .u64 s.1.1 s.1.2.1, s.1.2), s.2.2.1, s.2.1, s.2.2.2) with
    | none => rfl
    | some t =>
      show (bif true then (bif F18 (t, ()) then _ else _) else _) = _
      simp only [tgtR, (F18_eq t).1, (F18_eq t).2]
      cases chk t <;> rfl
  · rw [if_neg h]
    refine (bif_f (decide_eq_false h)).trans ?_
    rw [(F14_eq _).1, (F14_eq _).2, (F24_eq _).1, (F24_eq _).2]
    cases hx : tgt ((iandn .u64 s.1.1 s.1.2.1, s.1.2), s.2) with
    | none => rfl
    | some t =>
      show (bif true then (bif F18 (t, ()) then _ else _) else _) = _
      simp only [tgtR, (F18_eq t).1, (F18_eq t).2]
      cases chk t <;> rfl
theorem F7_eq (s : Sc) : F7 (s, ()) = wideF s ∧ G7 (s, ()) = true := ofE (E7_eq s)
/-! ## The lowest bits -/
def mst (w : Int) : Int := if w = 8 then 255 else if w = 16 then 65535 else 4294967295
def isW (w : Int) : Prop := w = 8 ∨ w = 16 ∨ w = 32
instance (w : Int) : Decidable (isW w) := by unfold isW; exact inferInstance
def castT (t : Tn) (w : Int) : Tn := if isW w then (iand .u64 t.1 (mst w), iand .u64 t.2.1 (mst w), ()) else t
theorem E27_eq (t : Tn) (w : Int) : E27 (t, w, ()) = some (castT t w) := by
  show S27 t w = _
  unfold S27 castT
  by_cases h8 : w = 8
  · subst h8; rfl
  · by_cases h16 : w = 16
    · subst h16; rfl
    · by_cases h32 : w = 32
      · subst h32; rfl
      · rw [if_neg (show ¬ isW w by unfold isW; omega)]
        exact (bif_f (decide_eq_false h8)).trans ((bif_f (decide_eq_false h16)).trans (bif_f (decide_eq_false h32)))
theorem E28_eq (t : Tn) (w : Int) : E28 (t, w, ()) = some (castT t w) := by
  show S28 t w = _
  unfold S28 castT
  by_cases h8 : w = 8
  · subst h8; rfl
  · by_cases h16 : w = 16
    · subst h16; rfl
    · by_cases h32 : w = 32
      · subst h32; rfl
      · rw [if_neg (show ¬ isW w by unfold isW; omega)]
        exact (bif_t (by rw [decide_eq_false h8]; rfl)).trans ((bif_t (by rw [decide_eq_false h16]; rfl)).trans (bif_t (by rw [decide_eq_false h32]; rfl)))
theorem F27_eq (t : Tn) (w : Int) : F27 (t, w, ()) = castT t w ∧ G27 (t, w, ()) = true := ofE (E27_eq t w)
theorem F28_eq (t : Tn) (w : Int) : F28 (t, w, ()) = castT t w ∧ G28 (t, w, ()) = true := ofE (E28_eq t w)
def tg (s : Sc) : Sc := (tgtR (tgt s)).1
theorem E26_eq (t : Tn) (a b : Int) : E26 (t, a, b, ()) = some (tg (t, a, b, ())) := by
  show S26 F13 G13 t a b = _
  unfold S26 tg
  rw [(F13_eq _).1, (F13_eq _).2]; rfl
theorem E29_eq (s : Sc) : E29 (s, ()) = some (tg s) := by
  show S29 F14 G14 s = _
  unfold S29 tg
  rw [(F14_eq _).1, (F14_eq _).2]; rfl
theorem F26_eq (t : Tn) (a b : Int) : F26 (t, a, b, ()) = tg (t, a, b, ()) ∧ G26 (t, a, b, ()) = true := ofE (E26_eq t a b)
theorem F29_eq (s : Sc) : F29 (s, ()) = tg s ∧ G29 (s, ()) = true := ofE (E29_eq s)
def castS (s : Sc) (w : Int) : Sc := if isW w then (if s.2.2.1 > mst w then tg (castT s.1 w, 0, mst w, ()) else tg (castT s.1 w, s.2.1, s.2.2.1, ())) else s
theorem E10_eq (s : Sc) (w : Int) : E10 (s, w, ()) = some (castS s w) := by
  show S10 F26 G26 F27 G27 s w = _
  unfold S10 castS
  simp only [(F26_eq _ _ _).1, (F26_eq _ _ _).2, (F27_eq _ _).1, (F27_eq _ _).2]
  by_cases h8 : w = 8
  · subst h8
    refine (bif_t rfl).trans ?_
    change (bif decide (s.2.2.1 > mst 8) then some (tg (castT s.1 8, 0, mst 8, ())) else some (tg (castT s.1 8, s.2.1, s.2.2.1, ()))) = _
    rw [if_pos (show isW 8 from .inl rfl), Bool.cond_decide]; split <;> rfl
  · by_cases h16 : w = 16
    · subst h16
      refine (bif_f rfl).trans ((bif_t rfl).trans ?_)
      change (bif decide (s.2.2.1 > mst 16) then some (tg (castT s.1 16, 0, mst 16, ())) else some (tg (castT s.1 16, s.2.1, s.2.2.1, ()))) = _
      rw [if_pos (show isW 16 from .inr (.inl rfl)), Bool.cond_decide]; split <;> rfl
    · by_cases h32 : w = 32
      · subst h32
        refine (bif_f rfl).trans ((bif_f rfl).trans ((bif_t rfl).trans ?_))
        change (bif decide (s.2.2.1 > mst 32) then some (tg (castT s.1 32, 0, mst 32, ())) else some (tg (castT s.1 32, s.2.1, s.2.2.1, ()))) = _
        rw [if_pos (show isW 32 from .inr (.inr rfl)), Bool.cond_decide]; split <;> rfl
      · rw [if_neg (show ¬ isW w by unfold isW; omega)]
        exact (bif_f (decide_eq_false h8)).trans ((bif_f (decide_eq_false h16)).trans (bif_f (decide_eq_false h32)))
theorem E11_eq (s : Sc) (w : Int) : E11 (s, w, ()) = some (castS s w) := by
  show S11 F28 G28 F29 G29 s w = _
  unfold S11 castS
  simp only [(F28_eq _ _).1, (F28_eq _ _).2, (F29_eq _).1, (F29_eq _).2]
  by_cases h8 : w = 8
  · subst h8
    refine (bif_f rfl).trans ?_
    change (bif decide (s.2.2.1 > mst 8) then some (tg (castT s.1 8, 0, mst 8, ())) else some (tg (castT s.1 8, s.2.1, s.2.2.1, ()))) = _
    rw [if_pos (show isW 8 from .inl rfl), Bool.cond_decide]; split <;> rfl
  · by_cases h16 : w = 16
    · subst h16
      refine (bif_t rfl).trans ((bif_f rfl).trans ?_)
      change (bif decide (s.2.2.1 > mst 16) then some (tg (castT s.1 16, 0, mst 16, ())) else some (tg (castT s.1 16, s.2.1, s.2.2.1, ()))) = _
      rw [if_pos (show isW 16 from .inr (.inl rfl)), Bool.cond_decide]; split <;> rfl
    · by_cases h32 : w = 32
      · subst h32
        refine (bif_t rfl).trans ((bif_t rfl).trans ((bif_f rfl).trans ?_))
        change (bif decide (s.2.2.1 > mst 32) then some (tg (castT s.1 32, 0, mst 32, ())) else some (tg (castT s.1 32, s.2.1, s.2.2.1, ()))) = _
        rw [if_pos (show isW 32 from .inr (.inr rfl)), Bool.cond_decide]; split <;> rfl
      · rw [if_neg (show ¬ isW w by unfold isW; omega)]
        exact (bif_t (by rw [decide_eq_false h8]; rfl)).trans ((bif_t (by rw [decide_eq_false h16]; rfl)).trans (bif_t (by rw [decide_eq_false h32]; rfl)))
theorem F10_eq (s : Sc) (w : Int) : F10 (s, w, ()) = castS s w ∧ G10 (s, w, ()) = true := ofE (E10_eq s w)
theorem F11_eq (s : Sc) (w : Int) : F11 (s, w, ()) = castS s w ∧ G11 (s, w, ()) = true := ofE (E11_eq s w)
theorem E15_eq (s : Sc) : E15 (s, ()) = some (if s.1.2.1 = 0 then (s.1.1, true, ()) else (0, false, ())) := by
  show S15 s = _
  unfold S15
  rw [Bool.cond_decide]; split <;> rfl
theorem E16_eq (s : Sc) : E16 (s, ()) = some (if s.1.2.1 = 0 then (s.1.1, true, ()) else (0, false, ())) := by
  show S16 s = _
  unfold S16
  by_cases h : s.1.2.1 = 0
  · rw [if_pos h]; exact bif_f (by rw [decide_eq_true h]; rfl)
  · rw [if_neg h]; exact bif_t (by rw [decide_eq_false h]; rfl)
def onl (s : Sc) : Int × Bool × Unit := if s.1.2.1 = 0 then (s.1.1, true, ()) else (0, false, ())
theorem F15_eq (s : Sc) : F15 (s, ()) = onl s ∧ G15 (s, ()) = true := ofE (E15_eq s)
theorem F16_eq (s : Sc) : F16 (s, ()) = onl s ∧ G16 (s, ()) = true := ofE (E16_eq s)
theorem S5_eq (s : Sc) (w : Int) : E5 (s, w, ()) = S5 F7 G7 F10 G10 F11 G11 F12 G12 F13 G13 F14 G14 F15 G15 F16 G16 F17 G17 F18 G18 s w := rfl
theorem E5_eq (s : Sc) (w : Int) : E5 (s, w, ()) = some true := by
  rw [S5_eq]
  unfold S5
  rw [(F7_eq s).1, (F7_eq s).2, (F10_eq _ w).1, (F10_eq _ w).2, (F11_eq _ w).1, (F11_eq _ w).2, (F13_eq s).1, (F13_eq s).2, (F14_eq s).1, (F14_eq s).2, (F15_eq s).1, (F15_eq s).2, (F16_eq s).1, (F16_eq s).2, (F17_eq s).1, (F17_eq s).2, (F18_eq s).1, (F18_eq s).2]
  exact (bif_t (eqS_self _)).trans ((bif_t (by simp)).trans ((bif_t (by simp)).trans ((bif_t (eqS_self _)).trans ((bif_t (decide_eq_true rfl)).trans ((bif_t (by simp)).trans rfl)))))
end Go.Proofs
