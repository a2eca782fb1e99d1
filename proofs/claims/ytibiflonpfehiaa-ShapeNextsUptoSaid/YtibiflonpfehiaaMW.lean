import Derived.Test.YtibiflonpfehiaaMV
namespace Go.Proofs
open Go.GX
set_option linter.unusedVariables false
set_option linter.unusedSimpArgs false
/-! ## Reaches, as the reference has it -/
theorem getD_last {r : List Int} {k : Int} : (r ++ [k]).getD r.length 0 = k := by simp [List.getD]
theorem sec_init {r : List Int} {k : Int} : sec 0 (r ++ [k]) 0 r.length = r := by
  unfold sec
  apply List.ext_getElem
  · simp
  · intro i h1 h2
    have h2' : i < r.length := h2
    simp [List.getD, List.getElem?_append_left h2', h2']
theorem V14_in {l : List In} {out : List Bool} {r : List Int} {k : Nat} (hk : k < l.length) (hkl : k + lng (l.getD k z0) ≤ l.length) (ho : out.length = l.length) (hl : l.length ≤ 4096) (hr : r.length ≤ 10000) :
    V14_0 (l, out, r ++ [(k : Int)], ()) = some (.inl (bif out.getD k false then (l, out, r, ()) else (l, mark l out k, r ++ nx l k, ()))) := by
  unfold V14_0 R14_0
  dsimp only
  have hn := nx_len l k
  have hp := lng_pos (l.getD k z0)
  have hlen : (r ++ [(k : Int)]).length = r.length + 1 := by simp
  have e0 : IntKind.wrap .i64 (((r.length + 1 : Nat) : Int) - 1) = ((r.length : Nat) : Int) := by rw [wi64 (by omega)]; omega
  have e1 : IntKind.wrap .i64 ((k : Int) + 1) = ((k + 1 : Nat) : Int) := by rw [wi64 (by omega)]; omega
  rw [hlen, e0, show Int.toNat ((r.length : Nat) : Int) = r.length by omega, show Int.toNat (((r.length : Nat) : Int) - 0) = r.length by omega, show 0 + r.length = r.length by omega, getD_last, sec_init, e1,
    show Int.toNat (k : Int) = k by omega, show Int.toNat ((k + 1 : Nat) : Int) = k + 1 by omega, show 0 + k = k by omega, show 0 + (k + 1) = k + 1 by omega, sec_full (l := out) rfl, (F26_eq hk hl).1, (F26_eq hk hl).2, sec_full (l := r ++ nx l k) (by simp)]
  have s1 : lset false out k true = out.set k true := lset_eq (by omega)
  rw [s1]
  have s2 : sec false (out.set k true) 0 out.length = out.set k true := sec_full (by simp)
  rw [s2]
  rw [decide_eq_true (show ((r.length + 1 : Nat) : Int) > 0 by omega), decide_eq_true (show 0 + out.length ≤ out.length by omega), decide_eq_true (show 0 + (r.length + (nx l k).length) ≤ r.length + (nx l k).length by omega),
    decide_eq_true (show (r.length + (nx l k).length) * 8 ≤ 140737488355328 by omega), decide_eq_true (show (0 : Int) ≤ (k : Int) by omega), decide_eq_true (show (k : Int) < ((l.length : Nat) : Int) by omega), decide_eq_true (show k < out.length by omega),
    decide_eq_true (show (k : Int) < ((out.length : Nat) : Int) by omega), decide_eq_true (show r.length ≤ r.length + 1 by omega), decide_eq_true (show ((r.length + 1 : Nat) : Int) ≤ ((r.length + 1 : Nat) : Int) by omega), decide_eq_true (show (0 : Int) ≤ ((r.length : Nat) : Int) by omega),
    decide_eq_true (show ((r.length : Nat) : Int) ≤ ((r.length + 1 : Nat) : Int) by omega), decide_eq_true (show r.length < r.length + 1 by omega), decide_eq_true (show ((r.length : Nat) : Int) < ((r.length + 1 : Nat) : Int) by omega), decide_eq_true (show (0 : Int) ≤ ((k + 1 : Nat) : Int) by omega)]
  cases out.getD k false
  · by_cases h24 : (l.getD k z0).1 = 24
    · have hw : wd (l.getD k z0) = true := decide_eq_true h24
      have hl2 : k + 1 < out.length := by
        unfold lng at hkl
        rw [hw] at hkl
        have : k + 2 ≤ l.length := hkl
        omega
      rw [decide_eq_true h24, decide_eq_true hl2, decide_eq_true (show ((k + 1 : Nat) : Int) < ((out.length : Nat) : Int) by omega), lset_eq (by simp; omega)]
      unfold mark
      rw [hw]
      have s3 : sec false ((out.set k true).set (k + 1) true) 0 out.length = (out.set k true).set (k + 1) true := sec_full (by simp)
      rw [s3]
      rfl
    · have hw : wd (l.getD k z0) = false := decide_eq_false h24
      rw [decide_eq_false h24]
      unfold mark
      rw [hw]
      rfl
  · rfl
theorem V14_end {l : List In} {out : List Bool} : V14_0 (l, out, [], ()) = some (.inr (out, ())) := by
  unfold V14_0 R14_0
  dsimp only
  rw [sec_full (l := out) rfl, decide_eq_true (show 0 + out.length ≤ out.length by omega)]
  rfl
/-! ## What is reached is the least that holds the first and what follows -/
theorem mark_getD {l : List In} {o : List Bool} {k : Nat} (hk : k + lng (l.getD k z0) ≤ o.length) (j : Nat) :
    (mark l o k).getD j false = if j = k ∨ (wd (l.getD k z0) = true ∧ j = k + 1) then true else o.getD j false := by
  unfold mark
  rcases lng_wd (i := l.getD k z0) with ⟨g1, g2⟩ | ⟨g1, g2⟩
  · rw [g2]
    show ((o.set k true).set (k + 1) true).getD j false = _
    rw [getD_set (by simp; omega), getD_set (by omega)]
    by_cases h1 : j = k + 1
    · rw [if_pos h1, if_pos (.inr ⟨rfl, h1⟩)]
    · rw [if_neg h1]
      by_cases h2 : j = k
      · rw [if_pos h2, if_pos (.inl h2)]
      · rw [if_neg h2, if_neg (by rintro (h | ⟨_, h⟩) <;> contradiction)]
  · rw [g2]
    show (o.set k true).getD j false = _
    rw [getD_set (by omega)]
    by_cases h2 : j = k
    · rw [if_pos h2, if_pos (.inl h2)]
    · rw [if_neg h2, if_neg (by rintro (h | ⟨h, _⟩) <;> contradiction)]
structure MI (l : List In) (b out : List Bool) (wait : List Int) : Prop where
  mn : ∀ S : Nat → Prop, S 0 → (∀ i, b.getD i false = true → S i → ∀ n ∈ nx l i, S n.toNat) → (∀ i, b.getD i false = true → out.getD i false = true → S i) ∧ ∀ w ∈ wait, S w.toNat
  nb : ∀ j, b.getD j false = false → out.getD j false = true → ∃ k, j = k + 1 ∧ b.getD k false = true ∧ wd (l.getD k z0) = true ∧ out.getD k false = true
  sc : ∀ k, b.getD k false = true → wd (l.getD k z0) = true → out.getD k false = true → out.getD (k + 1) false = true
theorem MI.skip {l : List In} {b out : List Bool} {r : List Int} {k : Nat} (h : MI l b out ((k : Int) :: r)) : MI l b out r :=
  ⟨fun S h0 hc => ⟨(h.mn S h0 hc).1, fun w hw => (h.mn S h0 hc).2 w (by simp [hw])⟩, h.nb, h.sc⟩
theorem MI.next {l : List In} {b out : List Bool} {r : List Int} {k : Nat} (hB : BI l b l.length) (hlen : out.length = l.length) (h : MI l b out ((k : Int) :: r)) (hbk : b.getD k false = true) (hkl : k + lng (l.getD k z0) ≤ l.length) :
    MI l b (mark l out k) (r ++ nx l k) := by
  have hm := mark_getD (l := l) (o := out) (k := k) (by rw [hlen]; exact hkl)
  have h4 := (hB.ok k hbk).2.2.2
  refine ⟨fun S h0 hc => ?_, fun j hj ho => ?_, fun j hj hw ho => ?_⟩
  · obtain ⟨g1, g2⟩ := h.mn S h0 hc
    have hSk : S k := by have := g2 (k : Int) (by simp); simpa using this
    refine ⟨fun i hi ho => ?_, fun w hw => ?_⟩
    · rw [hm i] at ho
      by_cases e : i = k ∨ (wd (l.getD k z0) = true ∧ i = k + 1)
      · rcases e with e | ⟨e1, e2⟩
        · rw [e]; exact hSk
        · rw [e2, h4 e1] at hi; cases hi
      · rw [if_neg e] at ho; exact g1 i hi ho
    · rcases List.mem_append.1 hw with hw | hw
      · exact g2 w (by simp [hw])
      · exact hc k hbk hSk w hw
  · rw [hm j] at ho
    by_cases e : j = k ∨ (wd (l.getD k z0) = true ∧ j = k + 1)
    · rcases e with e | ⟨e1, e2⟩
      · rw [e, hbk] at hj; cases hj
      · exact ⟨k, e2, hbk, e1, by rw [hm k, if_pos (.inl rfl)]⟩
    · rw [if_neg e] at ho
      obtain ⟨k', e1, e2, e3, e4⟩ := h.nb j hj ho
      refine ⟨k', e1, e2, e3, ?_⟩
      rw [hm k']
      split
      · rfl
      · exact e4
  · rw [hm (j + 1)]
    split
    · rfl
    · rename_i hne
      rw [hm j] at ho
      by_cases e : j = k ∨ (wd (l.getD k z0) = true ∧ j = k + 1)
      · rcases e with e | ⟨e1, e2⟩
        · subst e; exact absurd (.inr ⟨hw, rfl⟩) hne
        · rw [e2, h4 e1] at hj; cases hj
      · rw [if_neg e] at ho; exact h.sc j hj hw ho
theorem RI.perm {l : List In} {b out : List Bool} {r : List Int} {k : Int} (h : RI l b out (r ++ [k])) : RI l b out (k :: r) := by
  have hm : ∀ x, x ∈ r ++ [k] ↔ x ∈ k :: r := by intro x; simp [or_comm]
  exact ⟨h.len, fun w hw => h.wt w ((hm w).2 hw), fun i hi ho n hn => let ⟨m, e, h1, h2, h3⟩ := h.cl i hi ho n hn; ⟨m, e, h1, h2, h3.imp id (hm _).1⟩, h.z.imp id (hm _).1, by have := h.mu; simp at this ⊢; omega⟩
theorem MI.perm {l : List In} {b out : List Bool} {r : List Int} {k : Int} (h : MI l b out (r ++ [k])) : MI l b out (k :: r) :=
  ⟨fun S h0 hc => ⟨(h.mn S h0 hc).1, fun w hw => (h.mn S h0 hc).2 w (by simp at hw ⊢; exact hw.symm)⟩, h.nb, h.sc⟩
theorem MI0 {l : List In} {b : List Bool} : MI l b (List.replicate l.length false) [0] := by
  have hr : ∀ j, (List.replicate l.length false).getD j false = false := by
    intro j
    by_cases hj : j < l.length
    · simp [List.getD, hj]
    · simp [List.getD, hj]
  refine ⟨fun S h0 hc => ⟨fun i hi ho => ?_, fun w hw => ?_⟩, fun j hj ho => ?_, fun j hj hw ho => ?_⟩
  · rw [hr] at ho; cases ho
  · have : w = 0 := by simpa using hw
    rw [this]; exact h0
  · rw [hr] at ho; cases ho
  · rw [hr] at ho; cases ho
theorem res_of {l : List In} {b out : List Bool} (h : RI l b out []) : Res l b out := by
  refine ⟨h.len, fun i hi ho n hn => ?_, h.z.resolve_right (by simp)⟩
  obtain ⟨m, e, h1, h2, h3⟩ := h.cl i hi ho n hn
  exact ⟨m, e, h1, h2, h3.resolve_right (by simp)⟩
theorem run13 {l : List In} {b : List Bool} (hg : Good l) (hb : bg l = .inl b) : ∀ (N : Nat) (out : List Bool) (wait : List Int), RI l b out wait → MI l b out wait → 3 * cf out + wait.length ≤ N →
    ∃ o, wh V13_0 (l, out, wait, ()) = some (o, ()) ∧ Res l b o ∧ MI l b o [] := by
  intro N
  induction N with
  | zero =>
    intro out wait h hm hN
    have : wait = [] := List.length_eq_zero_iff.1 (by omega)
    subst this
    exact ⟨out, wh_stop V13_0_end, res_of h, hm⟩
  | succ N ih =>
    intro out wait h hm hN
    cases wait with
    | nil => exact ⟨out, wh_stop V13_0_end, res_of h, hm⟩
    | cons w r =>
      obtain ⟨k, rfl, hk, hbk⟩ := h.wt w (by simp)
      have hB := bg_BI hb
      have hkl := okAt_le hB hbk
      have hmu := h.mu
      have hcf := cf_le out
      have hl := hg.2.1
      simp only [List.length_cons] at hN hmu
      have hs := V13_0_in (r := r) hk hkl h.len hl (by omega)
      cases ho : out.getD k false
      · rw [ho] at hs
        have hc := cf_mark (l := l) (o := out) (k := k) (by rw [h.len]; exact hkl) ho
        have hn2 := nx_len l k
        obtain ⟨o, h1, h2⟩ := ih _ _ (h.next hg hb hbk hkl ho) (hm.next hB h.len hbk hkl) (by simp; omega)
        exact ⟨o, (wh_next hs).trans h1, h2⟩
      · rw [ho] at hs
        obtain ⟨o, h1, h2⟩ := ih _ _ (h.skip ho) hm.skip (by omega)
        exact ⟨o, (wh_next hs).trans h1, h2⟩
theorem run14 {l : List In} {b : List Bool} (hg : Good l) (hb : bg l = .inl b) : ∀ (N : Nat) (out : List Bool) (wait : List Int), RI l b out wait → MI l b out wait → 3 * cf out + wait.length ≤ N →
    ∃ o, wh V14_0 (l, out, wait, ()) = some (o, ()) ∧ Res l b o ∧ MI l b o [] := by
  intro N
  induction N with
  | zero =>
    intro out wait h hm hN
    have : wait = [] := List.length_eq_zero_iff.1 (by omega)
    subst this
    exact ⟨out, wh_stop V14_end, res_of h, hm⟩
  | succ N ih =>
    intro out wait h hm hN
    rcases List.eq_nil_or_concat wait with e | ⟨r, w, e⟩
    · subst e; exact ⟨out, wh_stop V14_end, res_of h, hm⟩
    · subst e
      rw [List.concat_eq_append] at h hm hN ⊢
      have h := h.perm
      have hm := hm.perm
      obtain ⟨k, rfl, hk, hbk⟩ := h.wt w (by simp)
      have hB := bg_BI hb
      have hkl := okAt_le hB hbk
      have hmu := h.mu
      have hcf := cf_le out
      have hl := hg.2.1
      simp only [List.length_append, List.length_cons, List.length_nil] at hN hmu
      have hs := V14_in (r := r) hk hkl h.len hl (by omega)
      cases ho : out.getD k false
      · rw [ho] at hs
        have hc := cf_mark (l := l) (o := out) (k := k) (by rw [h.len]; exact hkl) ho
        have hn2 := nx_len l k
        obtain ⟨o, h1, h2⟩ := ih _ _ (h.next hg hb hbk hkl ho) (hm.next hB h.len hbk hkl) (by simp; omega)
        exact ⟨o, (wh_next hs).trans h1, h2⟩
      · rw [ho] at hs
        obtain ⟨o, h1, h2⟩ := ih _ _ (h.skip ho) hm.skip (by omega)
        exact ⟨o, (wh_next hs).trans h1, h2⟩
theorem getD_ext {a b : List Bool} (hl : a.length = b.length) (h : ∀ j, a.getD j false = b.getD j false) : a = b := by
  apply List.ext_getElem hl
  intro i h1 h2
  have := h i
  rw [getD_lt h1, getD_lt h2] at this
  exact this
theorem le_of {l : List In} {b o p : List Bool} (hB : BI l b l.length) (m : MI l b o []) (r : Res l b p) (mp : MI l b p []) {j : Nat} (h : o.getD j false = true) : p.getD j false = true := by
  have hmin : ∀ i, b.getD i false = true → o.getD i false = true → p.getD i false = true := by
    refine (m.mn (fun i => p.getD i false = true) r.z (fun i hi hs n hn => ?_)).1
    obtain ⟨q, e, _, _, h3⟩ := r.cl i hi hs n hn
    show p.getD n.toNat false = true
    rw [e]; exact h3
  cases hb : b.getD j false
  · obtain ⟨k, e, e2, e3, e4⟩ := m.nb j hb h
    rw [e]; exact mp.sc k e2 e3 (hmin k e2 e4)
  · exact hmin j hb h
theorem reach_same {l : List In} {b o p : List Bool} (hB : BI l b l.length) (ro : Res l b o) (mo : MI l b o []) (rp : Res l b p) (mp : MI l b p []) : o = p := by
  refine getD_ext (ro.len.trans rp.len.symm) fun j => ?_
  cases h : o.getD j false
  · cases h2 : p.getD j false
    · rfl
    · rw [le_of hB mp ro mo h2] at h; cases h
  · exact (le_of hB mo rp mp h).symm
theorem E14_g {l : List In} (hg : Good l) {o : List Bool} (hw : wh V14_0 (l, List.replicate l.length false, [0], ()) = some (o, ())) : E14 (l, ()) = some o := by
  show S14 F8 G8 F26 G26 W14_0 Q14_0 l = _
  unfold S14
  obtain ⟨p, c, h1, h2, h3⟩ := F8_ex l
  have hc : c = 0 := h3.2 hg
  subst hc
  have hl := hg.2.1
  have h0 : sec false ([] : List Bool) 0 (Int.toNat ((l.length : Nat) : Int)) = List.replicate l.length false := by rw [show Int.toNat ((l.length : Nat) : Int) = l.length by omega]; exact sec_nil
  rw [h1, h2, h0]
  have e1 : W14_0 (l, List.replicate l.length false, [0], ()) = (o, ()) := whV_of (hd := hd14_0) (ys := ys14_0) hw
  have e2 : Q14_0 (l, List.replicate l.length false, [0], ()) = true := whK_of (hd := hd14_0) (ys := ys14_0) hw
  rw [e1, e2, show Int.toNat ((l.length : Nat) : Int) = l.length by omega]
  dsimp only
  rw [sec_full rfl]
  rw [decide_eq_true (show (0 : Int) ≤ ((l.length : Nat) : Int) by omega), decide_eq_true (show ((l.length : Nat) : Int) ≤ ((l.length : Nat) : Int) by omega),
    decide_eq_true (show 0 + l.length ≤ l.length by omega), decide_eq_true (show 1 * ((l.length : Nat) : Int) ≤ 281474976710656 by omega), decide_eq_true (show ((l.length : Nat) : Int) ≤ 281474976710656 by omega), decide_eq_true (show 0 + o.length ≤ o.length by omega)]
  rfl
theorem E14_n {l : List In} (hg : ¬ Good l) (hl : l.length ≤ 1048576) : E14 (l, ()) = some (List.replicate l.length false) := by
  show S14 F8 G8 F26 G26 W14_0 Q14_0 l = _
  unfold S14
  obtain ⟨p, c, h1, h2, h3⟩ := F8_ex l
  have hc : ¬ c = 0 := fun h => hg (h3.1 h)
  have h0 : sec false ([] : List Bool) 0 (Int.toNat ((l.length : Nat) : Int)) = List.replicate l.length false := by rw [show Int.toNat ((l.length : Nat) : Int) = l.length by omega]; exact sec_nil
  rw [h1, h2, h0, decide_eq_false hc, show Int.toNat ((l.length : Nat) : Int) = l.length by omega]
  rw [decide_eq_true (show (0 : Int) ≤ ((l.length : Nat) : Int) by omega), decide_eq_true (show ((l.length : Nat) : Int) ≤ ((l.length : Nat) : Int) by omega),
    decide_eq_true (show 0 + l.length ≤ l.length by omega), decide_eq_true (show 1 * ((l.length : Nat) : Int) ≤ 281474976710656 by omega), decide_eq_true (show ((l.length : Nat) : Int) ≤ 281474976710656 by omega)]
  rfl
theorem reaches_same {l : List In} (hl : l.length ≤ 1048576) : ∃ o, E13 (l, ()) = some o ∧ E14 (l, ()) = some o ∧ o.length = l.length := by
  by_cases hg : Good l
  · obtain ⟨h0, h1, b, hb, _⟩ := id hg
    obtain ⟨o, a1, a2, a3⟩ := run13 hg hb _ _ _ (RI0 hg hb) MI0 (Nat.le_refl _)
    obtain ⟨p, b1, b2, b3⟩ := run14 hg hb _ _ _ (RI0 hg hb) MI0 (Nat.le_refl _)
    have := reach_same (bg_BI hb) a2 a3 b2 b3
    subst this
    exact ⟨o, E13_g hg a1, E14_g hg b1, a2.len⟩
  · exact ⟨_, E13_n hg hl, E14_n hg hl, by simp⟩
end Go.Proofs
