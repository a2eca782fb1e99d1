import Derived.Test.YtibiflonpfehiaaME
namespace Go.Proofs
open Go.GX
set_option linter.unusedVariables false
set_option linter.unusedSimpArgs false
/-! ## From an instruction of a program that may be nothing leads out of it -/
theorem V5_2_in {l : List In} {r : List Bool} {n : List Int} {i k m : Nat} (hk : k < n.length) (hn : n.length ≤ 2) (hm : n.getD k 0 = (m : Int)) (hml : m < l.length) (h1 : one (l.getD m z0) = true) (hi : i < r.length) (hr : r.length = l.length) (hl : l.length ≤ 4096)
    (h2 : r.getD i false = true → r.getD m false = true) : V5_2 (l, r, (i : Int), n, (k : Int), ()) = some (.inl (l, r, (i : Int), n, ((k + 1 : Nat) : Int), ())) := by
  unfold V5_2 R5_2
  dsimp only
  unfold one at h1
  have e1 : IntKind.wrap .i64 ((k : Int) + 1) = ((k + 1 : Nat) : Int) := by rw [wi64 (by omega)]; omega
  rw [show Int.toNat (k : Int) = k by omega, hm, show Int.toNat (m : Int) = m by omega, show Int.toNat (i : Int) = i by omega, e1, h1, G17_t]
  rw [decide_eq_true (show (k : Int) < ((n.length : Nat) : Int) by omega), decide_eq_false (show ¬ (m : Int) < 0 by omega), decide_eq_false (show ¬ (m : Int) ≥ ((l.length : Nat) : Int) by omega), decide_eq_true (show (0 : Int) ≤ (k : Int) by omega),
    decide_eq_true (show (0 : Int) ≤ (m : Int) by omega), decide_eq_true (show (m : Int) < ((l.length : Nat) : Int) by omega), decide_eq_true (show (m : Int) < ((r.length : Nat) : Int) by omega), decide_eq_true (show (0 : Int) ≤ (i : Int) by omega), decide_eq_true (show (i : Int) < ((r.length : Nat) : Int) by omega)]
  cases hri : r.getD i false
  · rfl
  · rw [h2 hri]; rfl
theorem V5_2_end {l : List In} {r : List Bool} {n : List Int} {i : Int} : V5_2 (l, r, i, n, ((n.length : Nat) : Int), ()) = some (.inr (.inl (l, r, i, ()))) := by
  unfold V5_2 R5_2
  dsimp only
  exact (bif_f (decide_eq_false (by omega))).trans rfl
theorem V5_0_in {l : List In} {b r : List Bool} (hg : Good l) (hb : bg l = .inl b) (hR : Res l b r) {i : Nat} (hi : i < l.length) (hi2 : i < 200) : V5_0 (l, r, (i : Int), ()) = some (.inl (l, r, ((i + 1 : Nat) : Int), ())) := by
  have hB := bg_BI hb
  have hl := hg.2.1
  have e15 : F15 (l, (i : Int), ()) = (bif b.getD i false then nx l i else []) ∧ G15 (l, (i : Int), ()) = true := ofE (E15_eq hg hb hi)
  have key : ∃ n : List Int, F15 (l, (i : Int), ()) = n ∧ n.length ≤ 2 ∧ ∀ k, k < n.length → ∃ m : Nat, n.getD k 0 = (m : Int) ∧ m < l.length ∧ one (l.getD m z0) = true ∧ (r.getD i false = true → r.getD m false = true) := by
    cases hbi : b.getD i false
    · exact ⟨[], by rw [e15.1, hbi]; rfl, by simp, fun k hk => by simp at hk⟩
    · refine ⟨nx l i, by rw [e15.1, hbi]; rfl, nx_len l i, fun k hk => ?_⟩
      have hmem : (nx l i).getD k 0 ∈ nx l i := by rw [getD_lt hk]; exact List.getElem_mem hk
      obtain ⟨m, e, h1, h2⟩ := nx_good hg hb hbi _ hmem
      obtain ⟨_, ok, _, _⟩ := hB.ok m h2
      unfold okAt at ok
      refine ⟨m, e, h1, (Bool.and_eq_true_iff.1 ok).1, fun hri => ?_⟩
      obtain ⟨m', e', _, _, h3⟩ := hR.cl i hbi hri _ hmem
      have : m = m' := by omega
      rw [this]; exact h3
  obtain ⟨n, hn, hn2, hk⟩ := key
  have hw := (wh_steps (f := V5_2) (fun k => (l, r, (i : Int), n, (k : Int), ())) n.length (fun k hkn => by
    obtain ⟨m, g1, g2, g3, g4⟩ := hk k hkn
    exact V5_2_in hkn hn2 g1 g2 g3 (by rw [hR.len]; exact hi) hR.len hl g4)).trans (wh_stop V5_2_end)
  have e1 : W5_2 (l, r, (i : Int), n, 0, ()) = .inl (l, r, (i : Int), ()) := whV_of (hd := hd5_2) (ys := ys5_2) hw
  have e2 : Q5_2 (l, r, (i : Int), n, 0, ()) = true := whK_of (hd := hd5_2) (ys := ys5_2) hw
  unfold V5_0 R5_0
  dsimp only
  rw [hn, e15.2, e1, e2, decide_eq_true (show (i : Int) < ((l.length : Nat) : Int) by omega), decide_eq_true (show (i : Int) < 200 by omega)]
  have e3 : IntKind.wrap .i64 ((i : Int) + 1) = ((i + 1 : Nat) : Int) := by rw [wi64 (by omega)]; omega
  show some (Sum.inl (l, r, IntKind.wrap .i64 ((i : Int) + 1), ())) = _
  rw [e3]
theorem V5_0_end {l : List In} {r : List Bool} {i : Nat} (h : l.length ≤ i ∨ 200 ≤ i) : V5_0 (l, r, (i : Int), ()) = some (.inr (.inl (r, ()))) := by
  unfold V5_0 R5_0
  dsimp only
  by_cases h1 : l.length ≤ i
  · rw [decide_eq_false (show ¬ (i : Int) < ((l.length : Nat) : Int) by omega)]; rfl
  · rw [decide_eq_true (show (i : Int) < ((l.length : Nat) : Int) by omega), decide_eq_false (show ¬ (i : Int) < 200 by omega)]; rfl
theorem F12_t : F12 () = true ∧ G12 () = true := ⟨rfl, rfl⟩
theorem E5_eq {l : List In} (hl : l.length ≤ 1048576) : E5 (l, ()) = some true := by
  show S5 F7 G7 F12 G12 F13 G13 F15 G15 F17 G17 W5_2 Q5_2 W5_0 Q5_0 l = _
  unfold S5
  obtain ⟨p, c, h1, h2, h3⟩ := F7_ex l
  rw [h1, h2, F12_t.1, F12_t.2]
  by_cases hg : Good l
  · have hc : c = 0 := h3.2 hg
    subst hc
    obtain ⟨h0, h4, b, hb, hbad, hop⟩ := id hg
    obtain ⟨o, he, hR⟩ := E13_ex hg hb
    have f13 : F13 (l, ()) = o ∧ G13 (l, ()) = true := ofE he
    rw [f13.1, f13.2]
    have hlen := hR.len
    have hw := (wh_steps (f := V5_0) (fun i => (l, o, (i : Int), ())) (min l.length 200) (fun i hi => V5_0_in hg hb hR (by omega) (by omega))).trans (wh_stop (V5_0_end (by omega)))
    have e1 : W5_0 (l, o, 0, ()) = .inl (o, ()) := whV_of (hd := hd5_0) (ys := ys5_0) hw
    have e2 : Q5_0 (l, o, 0, ()) = true := whK_of (hd := hd5_0) (ys := ys5_0) hw
    rw [e1, e2, decide_eq_true (show ((o.length : Nat) : Int) = ((l.length : Nat) : Int) by omega)]
    show (bif decide (((o.length : Nat) : Int) > 0) then (bif o.getD 0 false then (bif true && (decide ((0 : Int) < ((o.length : Nat) : Int)) && (true && tt 1 (true && tt 1 true))) then some true else none) else _) else _) = some true
    rw [decide_eq_true (show ((o.length : Nat) : Int) > 0 by omega), hR.z]
    rfl
  · have hc : ¬ c = 0 := fun h => hg (h3.1 h)
    have f13 : F13 (l, ()) = List.replicate l.length false ∧ G13 (l, ()) = true := ofE (E13_n hg hl)
    rw [f13.1, f13.2, decide_eq_false hc, List.length_replicate, decide_eq_true (rfl : ((l.length : Nat) : Int) = ((l.length : Nat) : Int))]
    rfl
/-! ## One more instruction behind a program -/
abbrev ex9 : In := (149, 0, 0, 0, 0, ())
theorem one9 : one ex9 = true := by
  show F17 (ex9, ()) = true
  kernel_rfl
theorem jmp9 : jmp ex9 = false := by
  show F19 (ex9, ()) = false
  kernel_rfl
theorem getD_app {α : Type} {d : α} {a : List α} {x : α} {k : Nat} (h : k < a.length) : (a ++ [x]).getD k d = a.getD k d := by simp [List.getD, List.getElem?_append_left h]
theorem getD_end {α : Type} {d : α} {a : List α} {x : α} : (a ++ [x]).getD a.length d = x := by simp [List.getD]
theorem okAt_app {l : List In} {k : Nat} (h : k < l.length) (ho : okAt l k = true) : okAt (l ++ [ex9]) k = true ∧ k + lng (l.getD k z0) ≤ l.length := by
  unfold okAt at ho ⊢
  rw [getD_app h]
  obtain ⟨h1, h2⟩ := Bool.and_eq_true_iff.1 ho
  rw [h1]
  rcases lng_wd (i := l.getD k z0) with ⟨g1, g2⟩ | ⟨g1, g2⟩
  · rw [g2] at h2 ⊢
    simp only [Bool.not_true, Bool.false_or, Bool.and_eq_true, decide_eq_true_eq] at h2
    rw [getD_app h2.1, h2.2, decide_eq_true (show k + 1 < (l ++ [ex9]).length by simp; omega)]
    exact ⟨rfl, by omega⟩
  · rw [g2]; exact ⟨rfl, by omega⟩
theorem okAt_end (l : List In) : okAt (l ++ [ex9]) l.length = true := by
  unfold okAt
  rw [getD_end, one9]; rfl
theorem set_app {a : List Bool} {x : Bool} {k : Nat} (h : k < a.length) : (a ++ [x]).set k true = a.set k true ++ [x] := by rw [List.set_append_left _ _ h]
theorem set_end {a : List Bool} : (a ++ [false]).set a.length true = a ++ [true] := by rw [List.set_append_right _ _ (Nat.le_refl _)]; simp
theorem bgn_app {l : List In} : ∀ (f k : Nat) (b0 b : List Bool), b0.length = l.length → l.length ≤ k + f → k ≤ l.length → bgn l f k b0 = .inl b → bgn (l ++ [ex9]) (f + 1) k (b0 ++ [false]) = .inl (b ++ [true])
  | 0, k, b0, b, hb, hf, hk, e => by
    have : k = l.length := by omega
    subst this
    simp only [bgn, Sum.inl.injEq] at e
    subst e
    simp only [bgn]
    rw [decide_eq_true (show l.length < (l ++ [ex9]).length by simp), okAt_end]
    show Sum.inl ((b0 ++ [false]).set l.length true) = _
    rw [← hb, set_end]
  | f + 1, k, b0, b, hb, hf, hk, e => by
    rcases Nat.lt_or_ge k l.length with h | h
    · simp only [bgn] at e
      rw [decide_eq_true h] at e
      cases ho : okAt l k <;> rw [ho] at e
      · cases e
      · obtain ⟨g1, g2⟩ := okAt_app h ho
        have hp := lng_pos (l.getD k z0)
        rw [bgn.eq_2, decide_eq_true (show k < (l ++ [ex9]).length by simp; omega), g1, getD_app h, set_app (by omega)]
        exact bgn_app f _ _ b (by simpa using hb) (by omega) g2 e
    · have : k = l.length := by omega
      subst this
      simp only [bgn] at e
      rw [decide_eq_false (show ¬ l.length < l.length by omega)] at e
      cases e
      rw [bgn.eq_2, decide_eq_true (show l.length < (l ++ [ex9]).length by simp), okAt_end]
      show bgn (l ++ [ex9]) (f + 1) (l.length + lng ((l ++ [ex9]).getD l.length z0)) ((b0 ++ [false]).set l.length true) = _
      have hp := lng_pos ((l ++ [ex9]).getD l.length z0)
      rw [bgn.eq_2, decide_eq_false (show ¬ l.length + lng ((l ++ [ex9]).getD l.length z0) < (l ++ [ex9]).length from by rw [List.length_append]; show ¬ l.length + lng ((l ++ [ex9]).getD l.length z0) < l.length + 1; omega), ← hb, set_end]
      rfl
theorem bg_app {l : List In} {b : List Bool} (h : bg l = .inl b) : bg (l ++ [ex9]) = .inl (b ++ [true]) := by
  unfold bg at h ⊢
  rw [show (l ++ [ex9]).length = l.length + 1 by simp, List.replicate_succ']
  exact bgn_app l.length 0 _ b (by simp) (by omega) (by omega) h
theorem tgt_app {l : List In} {k : Nat} (h : k < l.length) : tgt ((l ++ [ex9]).getD k z0) k = tgt (l.getD k z0) k := by rw [getD_app h]
theorem Good_app {l : List In} (hg : Good l) (hl : l.length < 4000) : Good (l ++ [ex9]) := by
  obtain ⟨h0, h1, b, hb, hbad, hop⟩ := hg
  have hB := bg_BI hb
  have hbl := hB.len
  refine ⟨by simp, by simp; omega, b ++ [true], bg_app hb, fun k hk => ?_, .inr ?_⟩
  · have hk : k < l.length + 1 := by simpa using hk
    by_cases e : k = l.length
    · subst e
      unfold bad
      rw [getD_end, jmp9]
      simp
    · have hk : k < l.length := by omega
      have := hbad k hk
      unfold bad badT at this ⊢
      rw [getD_app (by omega), getD_app hk]
      cases h1 : b.getD k false
      · rfl
      · cases h2 : jmp (l.getD k z0)
        · rfl
        · rw [h1, h2] at this
          simp only [Bool.true_and, Bool.or_eq_false_iff, decide_eq_false_iff_not, Bool.not_eq_false'] at this
          obtain ⟨t1, t2, t3⟩ := this
          rw [decide_eq_false t1, decide_eq_false (show ¬ tgt (l.getD k z0) k ≥ (((l ++ [ex9]).length : Nat) : Int) from by rw [List.length_append]; show ¬ tgt (l.getD k z0) k ≥ ((l.length + 1 : Nat) : Int); omega), getD_app (by omega), t3]
          rfl
  · unfold opL
    rw [show (l ++ [ex9]).length = l.length + 1 by simp]
    simp only [las]
    rw [← hbl, getD_end]
    show ((l ++ [ex9]).getD b.length z0).1 = 149
    rw [hbl, getD_end]
theorem nx_app {l : List In} {k : Nat} (h : k < l.length) : nx (l ++ [ex9]) k = nx l k := by unfold nx; rw [getD_app h]
theorem mark_app {l : List In} {o : List Bool} {k : Nat} (h : k + lng (l.getD k z0) ≤ o.length) (hk : k < l.length) : mark (l ++ [ex9]) (o ++ [false]) k = mark l o k ++ [false] := by
  unfold mark
  rw [getD_app hk]
  have hp := lng_pos (l.getD k z0)
  rcases lng_wd (i := l.getD k z0) with ⟨g1, g2⟩ | ⟨g1, g2⟩
  · rw [g2]
    show ((o ++ [false]).set k true).set (k + 1) true = (o.set k true).set (k + 1) true ++ [false]
    rw [set_app (by omega), set_app (by simp; omega)]
  · rw [g2]
    show (o ++ [false]).set k true = o.set k true ++ [false]
    rw [set_app (by omega)]
theorem sim {l : List In} {b : List Bool} (hg : Good l) (hb : bg l = .inl b) (hl4 : l.length < 4000) : ∀ (N : Nat) (out : List Bool) (wait : List Int), RI l b out wait → 3 * cf out + wait.length ≤ N →
    ∃ o, wh V13_0 (l, out, wait, ()) = some (o, ()) ∧ wh V13_0 (l ++ [ex9], out ++ [false], wait, ()) = some (o ++ [false], ()) ∧ o.length = l.length := by
  intro N
  induction N with
  | zero =>
    intro out wait h hN
    have : wait = [] := List.length_eq_zero_iff.1 (by omega)
    subst this
    exact ⟨out, wh_stop V13_0_end, wh_stop V13_0_end, h.len⟩
  | succ N ih =>
    intro out wait h hN
    cases wait with
    | nil => exact ⟨out, wh_stop V13_0_end, wh_stop V13_0_end, h.len⟩
    | cons w r =>
      obtain ⟨k, rfl, hk, hbk⟩ := h.wt w (by simp)
      have hB := bg_BI hb
      have hkl := okAt_le hB hbk
      have hmu := h.mu
      have hcf := cf_le out
      have hol := h.len
      simp only [List.length_cons] at hN hmu
      have hs := V13_0_in (r := r) hk hkl h.len (by omega) (by omega)
      have hs2 := V13_0_in (l := l ++ [ex9]) (out := out ++ [false]) (r := r) (k := k) (by simp; omega) (by rw [getD_app hk, List.length_append]; show k + lng (l.getD k z0) ≤ l.length + 1; omega) (by simp [hol]) (by simp; omega) (by omega)
      rw [getD_app (by omega), mark_app (by omega) hk, nx_app hk] at hs2
      cases ho : out.getD k false
      · rw [ho] at hs hs2
        have hc := cf_mark (l := l) (o := out) (k := k) (by rw [h.len]; exact hkl) ho
        have hn2 := nx_len l k
        obtain ⟨o, h1, h2, h3⟩ := ih _ _ (h.next hg hb hbk hkl ho) (by simp; omega)
        exact ⟨o, (wh_next hs).trans h1, (wh_next hs2).trans h2, h3⟩
      · rw [ho] at hs hs2
        obtain ⟨o, h1, h2, h3⟩ := ih _ _ (h.skip ho) (by omega)
        exact ⟨o, (wh_next hs).trans h1, (wh_next hs2).trans h2, h3⟩
theorem V6_in {l : List In} {o : List Bool} {i : Nat} (hi : i < l.length) (ho : o.length = l.length) (hl : l.length ≤ 4096) : V6_0 (l, o, o ++ [false], (i : Int), ()) = some (.inl (l, o, o ++ [false], ((i + 1 : Nat) : Int), ())) := by
  unfold V6_0 R6_0
  dsimp only
  have e1 : IntKind.wrap .i64 ((i : Int) + 1) = ((i + 1 : Nat) : Int) := by rw [wi64 (by omega)]; omega
  rw [show Int.toNat (i : Int) = i by omega, e1, getD_app (by omega), List.length_append, decide_eq_true (show (i : Int) < ((l.length : Nat) : Int) by omega), decide_eq_true (show (0 : Int) ≤ (i : Int) by omega), decide_eq_true (show (i : Int) < ((o.length : Nat) : Int) by omega),
    decide_eq_true (show (i : Int) < ((o.length + [false].length : Nat) : Int) by simp; omega)]
  cases o.getD i false <;> rfl
theorem V6_end {l : List In} {o p : List Bool} : V6_0 (l, o, p, ((l.length : Nat) : Int), ()) = some (.inr (.inl ())) := by
  unfold V6_0 R6_0
  dsimp only
  exact (bif_f (decide_eq_false (by omega))).trans rfl
theorem E6_eq (l : List In) : E6 (l, ()) = some true := by
  show S6 F7 G7 F12 G12 F13 G13 W6_0 Q6_0 l = _
  unfold S6
  obtain ⟨p, c, h1, h2, h3⟩ := F7_ex l
  rw [h1, h2, F12_t.1, F12_t.2]
  by_cases hg : Good l
  · have hc : c = 0 := h3.2 hg
    subst hc
    by_cases hl : l.length < 4000
    · obtain ⟨h0, h4, b, hb, hbad, hop⟩ := id hg
      have hgm := Good_app hg hl
      obtain ⟨p', c', m1, m2, m3⟩ := F7_ex (l ++ [ex9])
      have hc' : c' = 0 := m3.2 hgm
      subst hc'
      obtain ⟨o, r1, r2, r3⟩ := sim hg hb hl _ _ _ (RI0 hg hb) (Nat.le_refl _)
      have f1 : F13 (l, ()) = o ∧ G13 (l, ()) = true := ofE (E13_g hg r1)
      have f2 : F13 (l ++ [ex9], ()) = o ++ [false] ∧ G13 (l ++ [ex9], ()) = true := by
        refine ofE (E13_g hgm ?_)
        rw [show (l ++ [ex9]).length = l.length + 1 by simp, List.replicate_succ']
        exact r2
      have eM : sec (0, (0, (0, (0, (0, ()))))) ((sec (0, (0, (0, (0, (0, ()))))) l 0 (0 + l.length)) ++ ([(149, (0, (0, (0, (0, ())))))] : List In)) 0 ((0 + l.length) + 1) = l ++ [ex9] := by
        rw [show 0 + l.length = l.length by omega, sec_full (l := l) rfl]
        exact sec_full (by simp)
      rw [eM, m1, m2, f1.1, f1.2, f2.1, f2.2]
      have hw := (wh_steps (f := V6_0) (fun i => (l, o, o ++ [false], (i : Int), ())) l.length (fun i hi => V6_in hi r3 (by omega))).trans (wh_stop V6_end)
      have e1 : W6_0 (l, o, o ++ [false], 0, ()) = .inl () := whV_of (hd := hd6_0) (ys := ys6_0) hw
      have e2 : Q6_0 (l, o, o ++ [false], 0, ()) = true := whK_of (hd := hd6_0) (ys := ys6_0) hw
      rw [e1, e2, show Int.toNat ((l.length : Nat) : Int) = l.length by omega, ← r3, getD_end, List.length_append, List.length_append, ← r3]
      rw [decide_eq_false (show ¬ ((o.length : Nat) : Int) ≥ 4000 by omega), decide_eq_true (show ((o.length : Nat) : Int) = ((o.length : Nat) : Int) by rfl), decide_eq_true (show ((o.length + [false].length : Nat) : Int) = ((o.length + [ex9].length : Nat) : Int) by rfl),
        decide_eq_true (show (0 : Int) ≤ ((o.length : Nat) : Int) by omega), decide_eq_true (show ((o.length : Nat) : Int) < ((o.length + [false].length : Nat) : Int) by simp; omega), show 0 + o.length = o.length by omega,
        decide_eq_true (show 0 + (o.length + 1) ≤ o.length + 1 by omega), decide_eq_true (show 0 + o.length ≤ o.length by omega), decide_eq_true (show (o.length + 1) * 40 ≤ 140737488355328 by omega), decide_eq_true (show o.length * 40 ≤ 140737488355328 by omega)]
      rfl
    · rw [decide_eq_true (show ((l.length : Nat) : Int) ≥ 4000 by omega)]
      rfl
  · have hc : ¬ c = 0 := fun h => hg (h3.1 h)
    rw [decide_eq_false hc]
    rfl
/-! ## The laws -/
theorem shapeStays_pure (x0 : List In) (w0 : WFv (.vsl (.pair (.int .i64) (.pair (.int .i64) (.pair (.int .i64) (.pair (.int .i64) (.pair (.int .i64) .unit)))))) x0) (s0 : SZ 1048576 (.vsl (.pair (.int .i64) (.pair (.int .i64) (.pair (.int .i64) (.pair (.int .i64) (.pair (.int .i64) .unit)))))) x0) :
    PureOK Try.prog 5 [⟨.vsl (.pair (.int .i64) (.pair (.int .i64) (.pair (.int .i64) (.pair (.int .i64) (.pair (.int .i64) .unit))))), x0⟩] ⟨.bool, true⟩ := by
  have h : F5 (x0, ()) = true ∧ G5 (x0, ()) = true := ofE (E5_eq s0.1)
  have := p5 (x0, ()) h.2
  rw [h.1] at this
  exact this
theorem shapeTails_pure (x0 : List In) (w0 : WFv (.vsl (.pair (.int .i64) (.pair (.int .i64) (.pair (.int .i64) (.pair (.int .i64) (.pair (.int .i64) .unit)))))) x0) :
    PureOK Try.prog 6 [⟨.vsl (.pair (.int .i64) (.pair (.int .i64) (.pair (.int .i64) (.pair (.int .i64) (.pair (.int .i64) .unit))))), x0⟩] ⟨.bool, true⟩ := by
  have h : F6 (x0, ()) = true ∧ G6 (x0, ()) = true := ofE (E6_eq x0)
  have := p6 (x0, ()) h.2
  rw [h.1] at this
  exact this
end Go.Proofs
