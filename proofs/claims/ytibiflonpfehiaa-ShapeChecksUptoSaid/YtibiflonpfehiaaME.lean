import Derived.Test.YtibiflonpfehiaaMD
namespace Go.Proofs
open Go.GX
set_option linter.unusedVariables false
set_option linter.unusedSimpArgs false
/-! ## What is reached -/
def mark (l : List In) (out : List Bool) (k : Nat) : List Bool := bif wd (l.getD k z0) then (out.set k true).set (k + 1) true else out.set k true
theorem mark_len (l : List In) (out : List Bool) (k : Nat) : (mark l out k).length = out.length := by unfold mark; cases wd (l.getD k z0) <;> simp
theorem V13_2_in {l : List In} {out : List Bool} {wait : List Int} {k n j : Nat} (hj : j < n) (hk : k + n ≤ out.length) (hl : out.length ≤ 4096) :
    V13_2 (l, out, wait, (k : Int), (n : Int), (j : Int), ()) = some (.inl (l, out.set (k + j) true, wait, (k : Int), (n : Int), ((j + 1 : Nat) : Int), ())) := by
  unfold V13_2 R13_2
  dsimp only
  have e1 : IntKind.wrap .i64 ((k : Int) + (j : Int)) = ((k + j : Nat) : Int) := by rw [wi64 (by omega)]; omega
  have e2 : IntKind.wrap .i64 ((j : Int) + 1) = ((j + 1 : Nat) : Int) := by rw [wi64 (by omega)]; omega
  have e3 : sec false (lset false out (0 + (k + j)) true) 0 out.length = out.set (k + j) true := by
    rw [show 0 + (k + j) = k + j by omega, lset_eq (by omega)]
    exact sec_full (by simp)
  rw [e1, e2, show Int.toNat ((k + j : Nat) : Int) = k + j by omega, e3, sec_full rfl, decide_eq_true (show (j : Int) < (n : Int) by omega), decide_eq_true (show 0 + out.length ≤ out.length by omega), decide_eq_true (show 0 + wait.length ≤ wait.length by omega),
    decide_eq_true (show 0 + (k + j) < out.length by omega), decide_eq_true (show (0 : Int) ≤ ((k + j : Nat) : Int) by omega), decide_eq_true (show ((k + j : Nat) : Int) < ((out.length : Nat) : Int) by omega)]
  rfl
theorem V13_2_end {l : List In} {out : List Bool} {wait : List Int} {k n : Nat} : V13_2 (l, out, wait, (k : Int), (n : Int), (n : Int), ()) = some (.inr (l, out, wait, (k : Int), ())) := by
  unfold V13_2 R13_2
  dsimp only
  rw [decide_eq_false (show ¬ (n : Int) < (n : Int) by omega), sec_full rfl, sec_full rfl, decide_eq_true (show 0 + out.length ≤ out.length by omega), decide_eq_true (show 0 + wait.length ≤ wait.length by omega)]
  rfl
theorem W13_2_eq {l : List In} {out : List Bool} {wait : List Int} {k : Nat} (hk : k + lng (l.getD k z0) ≤ out.length) (hl : out.length ≤ 4096) :
    W13_2 (l, out, wait, (k : Int), (lng (l.getD k z0) : Int), 0, ()) = (l, mark l out k, wait, (k : Int), ()) ∧ Q13_2 (l, out, wait, (k : Int), (lng (l.getD k z0) : Int), 0, ()) = true := by
  have h : wh V13_2 (l, out, wait, (k : Int), (lng (l.getD k z0) : Int), 0, ()) = some (l, mark l out k, wait, (k : Int), ()) := by
    unfold mark
    rcases lng_wd (i := l.getD k z0) with ⟨h1, h2⟩ | ⟨h1, h2⟩
    · rw [h1] at hk ⊢
      rw [h2]
      have s1 := wh_next (V13_2_in (l := l) (out := out) (wait := wait) (k := k) (n := 2) (j := 0) (by omega) hk hl)
      have s2 := wh_next (V13_2_in (l := l) (out := out.set k true) (wait := wait) (k := k) (n := 2) (j := 1) (by omega) (by simpa using hk) (by simpa using hl))
      exact s1.trans (s2.trans (wh_stop (V13_2_end (n := 2))))
    · rw [h1] at hk ⊢
      rw [h2]
      have s1 := wh_next (V13_2_in (l := l) (out := out) (wait := wait) (k := k) (n := 1) (j := 0) (by omega) hk hl)
      exact s1.trans (wh_stop (V13_2_end (n := 1)))
  exact ⟨whV_of (hd := hd13_2) (ys := ys13_2) h, whK_of (hd := hd13_2) (ys := ys13_2) h⟩
theorem sec_tail {w : Int} {r : List Int} : sec 0 (w :: r) 1 (Int.toNat ((((w :: r).length : Nat) : Int) - 1)) = r := by
  rw [show Int.toNat ((((w :: r).length : Nat) : Int) - 1) = r.length by simp]
  unfold sec
  apply List.ext_getElem
  · simp
  · intro i h1 h2
    have h2' : i < r.length := h2
    simp [List.getD, Nat.add_comm 1 i, h2']
theorem V13_0_in {l : List In} {out : List Bool} {r : List Int} {k : Nat} (hk : k < l.length) (hkl : k + lng (l.getD k z0) ≤ l.length) (ho : out.length = l.length) (hl : l.length ≤ 4096) (hr : r.length ≤ 10000) :
    V13_0 (l, out, (k : Int) :: r, ()) = some (.inl (bif out.getD k false then (l, out, r, ()) else (l, mark l out k, r ++ nx l k, ()))) := by
  unfold V13_0 R13_0
  dsimp only
  have hW := W13_2_eq (l := l) (out := out) (wait := r) (k := k) (by omega) (by omega)
  have hn := nx_len l k
  rw [sec_tail, sec_full (l := out) rfl, show ((k : Int) :: r).getD 0 0 = (k : Int) from rfl, show Int.toNat (k : Int) = k by omega, show 0 + k = k by omega]
  rw [(F22_e _).1, (F22_e _).2, hW.1, hW.2]
  dsimp only
  rw [(F25_eq hk hl).1, (F25_eq hk hl).2, sec_full rfl, sec_full (l := r) rfl, sec_full (l := r ++ nx l k) (by simp)]
  have hlen : ((k : Int) :: r).length = r.length + 1 := rfl
  have hml := mark_len l out k
  rw [hlen, decide_eq_true (show ((r.length + 1 : Nat) : Int) > 0 by omega), decide_eq_true (show 0 + (mark l out k).length ≤ (mark l out k).length by omega), decide_eq_true (show 0 + (r.length + (nx l k).length) ≤ r.length + (nx l k).length by omega),
    decide_eq_true (show 0 + r.length ≤ r.length by omega), decide_eq_true (show (r.length + (nx l k).length) * 8 ≤ 140737488355328 by omega), decide_eq_true (show 0 + out.length ≤ out.length by omega),
    decide_eq_true (show 1 + Int.toNat (((r.length + 1 : Nat) : Int) - 1) ≤ r.length + 1 by omega), decide_eq_true (show (0 : Int) ≤ (k : Int) by omega), decide_eq_true (show (k : Int) < ((l.length : Nat) : Int) by omega), decide_eq_true (show k < out.length by omega),
    decide_eq_true (show (k : Int) < ((out.length : Nat) : Int) by omega), decide_eq_true (show ((r.length + 1 : Nat) : Int) ≤ ((r.length + 1 : Nat) : Int) by omega), decide_eq_true (show (0 : Int) ≤ ((r.length + 1 : Nat) : Int) by omega), decide_eq_true (show (1 : Int) ≤ ((r.length + 1 : Nat) : Int) by omega),
    decide_eq_true (show 0 < r.length + 1 by omega)]
  cases out.getD k false <;> rfl
theorem V13_0_end {l : List In} {out : List Bool} : V13_0 (l, out, [], ()) = some (.inr (out, ())) := by
  unfold V13_0 R13_0
  dsimp only
  rw [sec_full (l := out) rfl, decide_eq_true (show 0 + out.length ≤ out.length by omega)]
  rfl
/-! ## The run -/
theorem nx_good {l : List In} {b : List Bool} (hg : Good l) (hb : bg l = .inl b) {k : Nat} (hk : b.getD k false = true) : ∀ n ∈ nx l k, ∃ m : Nat, n = (m : Int) ∧ m < l.length ∧ b.getD m false = true := by
  obtain ⟨h0, h1, b', e, hbad, hop⟩ := hg
  rw [hb] at e; cases e
  have hB := bg_BI hb
  obtain ⟨k1, k2, k3, k4⟩ := hB.ok k hk
  intro n hn
  unfold nx at hn
  rcases List.mem_append.1 hn with hn | hn
  · cases hc : (decide ((l.getD k z0).1 = 149) || decide ((l.getD k z0).1 = 5)) <;> rw [hc] at hn
    · simp only [cond_false, List.mem_singleton] at hn
      subst hn
      rcases k3 with k3 | ⟨k3, k5⟩
      · exfalso
        have hl := las_ge k1 hk
        have hlt := las_lt (b := b) h0
        have hp := lng_pos (l.getD k z0)
        by_cases e : las b l.length = k
        · unfold opL at hop
          rw [e] at hop
          simp only [Bool.or_eq_false_iff, decide_eq_false_iff_not] at hc
          rcases hop with hop | hop
          · exact hc.2 hop
          · exact hc.1 hop
        · rcases lng_wd (i := l.getD k z0) with ⟨g1, g2⟩ | ⟨g1, g2⟩
          · have : las b l.length = k + 1 := by omega
            rw [this] at hl
            rw [k4 g2] at hl; cases hl.2
          · omega
      · exact ⟨_, rfl, k3, k5⟩
    · simp at hn
  · cases hj : jmp (l.getD k z0) <;> rw [hj] at hn
    · simp at hn
    · simp only [cond_true, List.mem_singleton] at hn
      subst hn
      have := hbad k k1
      unfold bad badT at this
      rw [hk, hj] at this
      simp only [Bool.true_and, Bool.or_eq_false_iff, decide_eq_false_iff_not, Bool.not_eq_false'] at this
      obtain ⟨t1, t2, t3⟩ := this
      exact ⟨Int.toNat (tgt (l.getD k z0) k), by omega, by omega, t3⟩
def cf (o : List Bool) : Nat := o.count false
theorem cf_le (o : List Bool) : cf o ≤ o.length := List.count_le_length
theorem cf_set {o : List Bool} {k : Nat} (hk : k < o.length) : cf (o.set k true) + (bif o.getD k false then 0 else 1) = cf o := by
  unfold cf
  rw [List.count_set hk]
  have hg : o.getD k false = o[k] := by simp [List.getD, hk]
  rw [hg]
  cases e : o[k]
  · have : 0 < o.count false := List.count_pos_iff.2 (by rw [← e]; exact List.getElem_mem hk)
    simp; omega
  · simp
theorem cf_mark {l : List In} {o : List Bool} {k : Nat} (hk : k + lng (l.getD k z0) ≤ o.length) (h : o.getD k false = false) : cf (mark l o k) + 1 ≤ cf o := by
  unfold mark
  have hp := lng_pos (l.getD k z0)
  have h1 := cf_set (o := o) (k := k) (by omega)
  rw [h] at h1
  rcases lng_wd (i := l.getD k z0) with ⟨g1, g2⟩ | ⟨g1, g2⟩
  · rw [g2]
    have h2 := cf_set (o := o.set k true) (k := k + 1) (by simp; omega)
    show cf ((o.set k true).set (k + 1) true) + 1 ≤ cf o
    have h1 : cf (o.set k true) + 1 = cf o := h1
    omega
  · rw [g2]
    show cf (o.set k true) + 1 ≤ cf o
    have h1 : cf (o.set k true) + 1 = cf o := h1
    omega
theorem mark_get {l : List In} {b o : List Bool} (hB : BI l b l.length) {k j : Nat} (hk : b.getD k false = true) (ho : o.length = l.length) (hj : b.getD j false = true) :
    (mark l o k).getD j false = if j = k then true else o.getD j false := by
  obtain ⟨k1, k2, k3, k4⟩ := hB.ok k hk
  unfold mark
  rcases lng_wd (i := l.getD k z0) with ⟨g1, g2⟩ | ⟨g1, g2⟩
  · rw [g2]
    show ((o.set k true).set (k + 1) true).getD j false = _
    have : k + 1 < l.length := by rcases k3 with k3 | ⟨k3, _⟩ <;> omega
    rw [getD_set (by simp; omega), if_neg (fun e => by subst e; rw [k4 g2] at hj; cases hj), getD_set (by omega)]
  · rw [g2]
    show (o.set k true).getD j false = _
    rw [getD_set (by omega)]
/-- what holds while they are looked for -/
structure RI (l : List In) (b out : List Bool) (wait : List Int) : Prop where
  len : out.length = l.length
  wt : ∀ w ∈ wait, ∃ m : Nat, w = (m : Int) ∧ m < l.length ∧ b.getD m false = true
  cl : ∀ i, b.getD i false = true → out.getD i false = true → ∀ n ∈ nx l i, ∃ m : Nat, n = (m : Int) ∧ m < l.length ∧ b.getD m false = true ∧ (out.getD m false = true ∨ (m : Int) ∈ wait)
  z : out.getD 0 false = true ∨ (0 : Int) ∈ wait
  mu : 2 * cf out + wait.length ≤ 2 * l.length + 1
structure Res (l : List In) (b o : List Bool) : Prop where
  len : o.length = l.length
  cl : ∀ i, b.getD i false = true → o.getD i false = true → ∀ n ∈ nx l i, ∃ m : Nat, n = (m : Int) ∧ m < l.length ∧ b.getD m false = true ∧ o.getD m false = true
  z : o.getD 0 false = true
theorem RI.skip {l : List In} {b out : List Bool} {r : List Int} {k : Nat} (h : RI l b out ((k : Int) :: r)) (ho : out.getD k false = true) : RI l b out r := by
  refine ⟨h.len, fun w hw => h.wt w (by simp [hw]), fun i hi hoi n hn => ?_, ?_, by have := h.mu; simp at this; omega⟩
  · obtain ⟨m, e, h1, h2, h3⟩ := h.cl i hi hoi n hn
    refine ⟨m, e, h1, h2, ?_⟩
    rcases h3 with h3 | h3
    · exact .inl h3
    · rcases List.mem_cons.1 h3 with h3 | h3
      · have : m = k := by omega
        subst this; exact .inl ho
      · exact .inr h3
  · rcases h.z with h3 | h3
    · exact .inl h3
    · rcases List.mem_cons.1 h3 with h3 | h3
      · have : k = 0 := by omega
        subst this; exact .inl ho
      · exact .inr h3
theorem RI.next {l : List In} {b out : List Bool} {r : List Int} {k : Nat} (hg : Good l) (hb : bg l = .inl b) (h : RI l b out ((k : Int) :: r)) (hbk : b.getD k false = true) (hkl : k + lng (l.getD k z0) ≤ l.length) (ho : out.getD k false = false) :
    RI l b (mark l out k) (r ++ nx l k) := by
  have hB := bg_BI hb
  have hn2 := nx_len l k
  have hc := cf_mark (l := l) (o := out) (k := k) (by rw [h.len]; exact hkl) ho
  have up : ∀ m, b.getD m false = true → (out.getD m false = true ∨ (m : Int) ∈ ((k : Int) :: r)) → ((mark l out k).getD m false = true ∨ (m : Int) ∈ r ++ nx l k) := by
    intro m hm hh
    rw [mark_get hB hbk h.len hm]
    by_cases e : m = k
    · rw [if_pos e]; exact .inl rfl
    · rw [if_neg e]
      rcases hh with hh | hh
      · exact .inl hh
      · rcases List.mem_cons.1 hh with hh | hh
        · exact absurd (by omega) e
        · exact .inr (by simp [hh])
  refine ⟨(mark_len l out k).trans h.len, fun w hw => ?_, fun i hi hoi n hn => ?_, ?_, by have := h.mu; simp at this ⊢; omega⟩
  · rcases List.mem_append.1 hw with hw | hw
    · exact h.wt w (by simp [hw])
    · exact nx_good hg hb hbk w hw
  · by_cases e : i = k
    · subst e
      obtain ⟨m, e, h1, h2⟩ := nx_good hg hb hbk n hn
      exact ⟨m, e, h1, h2, .inr (by rw [← e]; simp [hn])⟩
    · rw [mark_get hB hbk h.len hi, if_neg e] at hoi
      obtain ⟨m, e, h1, h2, h3⟩ := h.cl i hi hoi n hn
      exact ⟨m, e, h1, h2, up m h2 h3⟩
  · have h00 : b.getD 0 false = true := by
      rcases hB.z with h | h
      · have := hg.1; omega
      · exact h
    exact up 0 h00 h.z
theorem okAt_le {l : List In} {b : List Bool} (hB : BI l b l.length) {k : Nat} (hk : b.getD k false = true) : k + lng (l.getD k z0) ≤ l.length := by
  obtain ⟨_, _, h, _⟩ := hB.ok k hk
  rcases h with h | ⟨h, _⟩ <;> omega
theorem run {l : List In} {b : List Bool} (hg : Good l) (hb : bg l = .inl b) : ∀ (N : Nat) (out : List Bool) (wait : List Int), RI l b out wait → 3 * cf out + wait.length ≤ N →
    ∃ o, wh V13_0 (l, out, wait, ()) = some (o, ()) ∧ Res l b o := by
  intro N
  induction N with
  | zero =>
    intro out wait h hN
    have : wait = [] := List.length_eq_zero_iff.1 (by omega)
    subst this
    refine ⟨out, wh_stop V13_0_end, h.len, fun i hi ho n hn => ?_, ?_⟩
    · obtain ⟨m, e, h1, h2, h3⟩ := h.cl i hi ho n hn
      exact ⟨m, e, h1, h2, h3.resolve_right (by simp)⟩
    · exact h.z.resolve_right (by simp)
  | succ N ih =>
    intro out wait h hN
    cases wait with
    | nil =>
      refine ⟨out, wh_stop V13_0_end, h.len, fun i hi ho n hn => ?_, ?_⟩
      · obtain ⟨m, e, h1, h2, h3⟩ := h.cl i hi ho n hn
        exact ⟨m, e, h1, h2, h3.resolve_right (by simp)⟩
      · exact h.z.resolve_right (by simp)
    | cons w r =>
      obtain ⟨k, rfl, hk, hbk⟩ := h.wt w (by simp)
      have hB := bg_BI hb
      have hkl := okAt_le hB hbk
      have hmu := h.mu
      have hcf := cf_le out
      have hl := hg.2.1
      simp only [List.length_cons] at hN hmu
      have hs := V13_0_in (r := r) hk hkl h.len hl (by omega)
      cases ho : out.getD k false
      · rw [ho] at hs
        have hc := cf_mark (l := l) (o := out) (k := k) (by rw [h.len]; exact hkl) ho
        have hn2 := nx_len l k
        obtain ⟨o, h1, h2⟩ := ih _ _ (h.next hg hb hbk hkl ho) (by simp; omega)
        exact ⟨o, (wh_next hs).trans h1, h2⟩
      · rw [ho] at hs
        obtain ⟨o, h1, h2⟩ := ih _ _ (h.skip ho) (by omega)
        exact ⟨o, (wh_next hs).trans h1, h2⟩
theorem RI0 {l : List In} {b : List Bool} (hg : Good l) (hb : bg l = .inl b) : RI l b (List.replicate l.length false) [0] := by
  have hB := bg_BI hb
  refine ⟨by simp, fun w hw => ⟨0, by simpa using hw, hg.1, ?_⟩, fun i hi ho => ?_, .inr (by simp), ?_⟩
  · rcases hB.z with h | h
    · have := hg.1; omega
    · exact h
  · have : (List.replicate l.length false).getD i false = false := by
      by_cases hj : i < l.length
      · simp [List.getD, hj]
      · simp [List.getD, hj]
    rw [this] at ho; cases ho
  · have := cf_le (List.replicate l.length false)
    simp only [List.length_replicate] at this
    simp; omega
theorem E13_g {l : List In} (hg : Good l) {o : List Bool} (hw : wh V13_0 (l, List.replicate l.length false, [0], ()) = some (o, ())) : E13 (l, ()) = some o := by
  show S13 F7 G7 F22 G22 F25 G25 W13_2 Q13_2 W13_0 Q13_0 l = _
  unfold S13
  obtain ⟨p, c, h1, h2, h3⟩ := F7_ex l
  have hc : c = 0 := h3.2 hg
  subst hc
  have hl := hg.2.1
  have h0 : sec false ([] : List Bool) 0 (Int.toNat ((l.length : Nat) : Int)) = List.replicate l.length false := by rw [show Int.toNat ((l.length : Nat) : Int) = l.length by omega]; exact sec_nil
  rw [h1, h2, h0]
  have e1 : W13_0 (l, List.replicate l.length false, [0], ()) = (o, ()) := whV_of (hd := hd13_0) (ys := ys13_0) hw
  have e2 : Q13_0 (l, List.replicate l.length false, [0], ()) = true := whK_of (hd := hd13_0) (ys := ys13_0) hw
  rw [e1, e2, show Int.toNat ((l.length : Nat) : Int) = l.length by omega]
  dsimp only
  rw [sec_full rfl]
  rw [decide_eq_true (show (0 : Int) ≤ ((l.length : Nat) : Int) by omega), decide_eq_true (show ((l.length : Nat) : Int) ≤ ((l.length : Nat) : Int) by omega),
    decide_eq_true (show 0 + l.length ≤ l.length by omega), decide_eq_true (show 1 * ((l.length : Nat) : Int) ≤ 281474976710656 by omega), decide_eq_true (show ((l.length : Nat) : Int) ≤ 281474976710656 by omega), decide_eq_true (show 0 + o.length ≤ o.length by omega)]
  rfl
theorem E13_ex {l : List In} {b : List Bool} (hg : Good l) (hb : bg l = .inl b) : ∃ o, E13 (l, ()) = some o ∧ Res l b o := by
  obtain ⟨o, h1, h2⟩ := run hg hb _ _ _ (RI0 hg hb) (Nat.le_refl _)
  exact ⟨o, E13_g hg h1, h2⟩
theorem E13_n {l : List In} (hg : ¬ Good l) (hl : l.length ≤ 1048576) : E13 (l, ()) = some (List.replicate l.length false) := by
  show S13 F7 G7 F22 G22 F25 G25 W13_2 Q13_2 W13_0 Q13_0 l = _
  unfold S13
  obtain ⟨p, c, h1, h2, h3⟩ := F7_ex l
  have hc : ¬ c = 0 := fun h => hg (h3.1 h)
  have h0 : sec false ([] : List Bool) 0 (Int.toNat ((l.length : Nat) : Int)) = List.replicate l.length false := by rw [show Int.toNat ((l.length : Nat) : Int) = l.length by omega]; exact sec_nil
  rw [h1, h2, h0, decide_eq_false hc, show Int.toNat ((l.length : Nat) : Int) = l.length by omega]
  rw [decide_eq_true (show (0 : Int) ≤ ((l.length : Nat) : Int) by omega), decide_eq_true (show ((l.length : Nat) : Int) ≤ ((l.length : Nat) : Int) by omega),
    decide_eq_true (show 0 + l.length ≤ l.length by omega), decide_eq_true (show 1 * ((l.length : Nat) : Int) ≤ 281474976710656 by omega), decide_eq_true (show ((l.length : Nat) : Int) ≤ 281474976710656 by omega)]
  rfl
end Go.Proofs
