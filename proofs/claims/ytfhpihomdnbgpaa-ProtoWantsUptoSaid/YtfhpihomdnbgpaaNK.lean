import Derived.Test.YtfhpihomdnbgpaaNJ
namespace Go.Proofs
open Go.GX
set_option linter.unusedVariables false
set_option linter.unusedSimpArgs false
abbrev zS : KD6 := ([], ([], (0, ([], (0, ())))))
theorem E9_t (s : KD6) (m : List Sp) (n : Int) {a k : List Int} {b : Bool} {e : Int} (h16 : E16 (n, ()) = some ((a, (k, ())), (b, ()))) (h17 : E17 (cl s m a k) () = some e) (hb : b = true) (he : e ≠ 0) :
    E9 (s, m, n, ()) = some (zS, (e, ())) := by
  have f16 : F16 (n, ()) = ((a, (k, ())), (b, ())) ∧ G16 (n, ()) = true := ofE h16
  have f17 : F17 (cl s m a k) () = e := by show (E17 _ _).getD _ = _; rw [h17]; rfl
  have g17 : G17 (cl s m a k) () = true := some_of ⟨e, h17⟩
  show S9 F16 G16 F17 G17 F18 G18 F19 G19 F20 G20 F21 G21 F22 G22 F24 G24 F25 G25 F26 G26 s m n = _
  unfold S9
  simp only [f16.1, f16.2, f17, g17, hb, decide_eq_false he]
  rfl
theorem reg_nn {s : KD6} (w : WFv KT17 s) (j : Nat) : 0 ≤ (s.1.getD j dR).2.1.1.1 := by
  by_cases hj : j < s.1.length
  · have hm : s.1.getD j dR ∈ s.1 := by rw [List.getD_eq_getElem?_getD, List.getElem?_eq_getElem hj]; exact List.getElem_mem hj
    exact (wf_u64 (w.1.2 _ hm).2.1.1.1).1
  · rw [List.getD_eq_getElem?_getD, List.getElem?_eq_none (by omega)]
    exact Int.le_refl 0
theorem E11_eq (s : KD6) (hl : s.2.2.2.1.length ≤ 1048576) : E11 (s, ()) = some s := by
  show S11 s = _
  unfold S11
  simp only [Nat.zero_add, sec_full rfl, decide_eq_true (Nat.le_refl s.2.2.2.1.length), decide_eq_true (show s.2.2.2.1.length * 8 ≤ 140737488355328 by omega)]
  rfl
theorem E5_eq {s : KD6} {m : List Sp} {n : List Int} (w : WFv KT17 s) (hl : s.2.2.2.1.length ≤ 1048576) (hm : m.length ≤ 1048576) : E5 (s, m, n, ()) = some true := by
  have g6 := (F6_t s hl).1
  have g7 := G7_t m hm
  have a8 : F8 () = true ∧ G8 () = true := ⟨rfl, rfl⟩
  obtain ⟨f11, g11⟩ : F11 (s, ()) = s ∧ G11 (s, ()) = true := ofE (E11_eq s hl)
  obtain ⟨a, k, b, h16, ha, hk, hb⟩ := E16_t (n.getD 0 0)
  have f16 : F16 (n.getD 0 0, ()) = ((a, (k, ())), (b, ())) ∧ G16 (n.getD 0 0, ()) = true := ofE h16
  have e10 : E10 (n.getD 0 0, ()) = some ((a.length : Nat) : Int) := by
    show S10 F16 G16 (n.getD 0 0) = _
    unfold S10
    rw [f16.1, f16.2]
    rfl
  obtain ⟨f10, g10⟩ : F10 (n.getD 0 0, ()) = ((a.length : Nat) : Int) ∧ G10 (n.getD 0 0, ()) = true := ofE e10
  show S5 F6 G6 F7 G7 F8 G8 F9 G9 F10 G10 F11 G11 s m n = _
  unfold S5
  simp only [g6, g7, a8.1, a8.2, f11, g11, f10, g10]
  cases F6 (s, ()) with
  | false => rfl
  | true =>
    cases F7 (m, ()) with
    | false => rfl
    | true =>
      by_cases h1 : n.getD 1 0 < 1
      · rw [decide_eq_true h1]; rfl
      · rw [decide_eq_false h1]
        by_cases h2 : n.getD 1 0 > ((a.length : Nat) : Int)
        · rw [decide_eq_true h2]; rfl
        · rw [decide_eq_false h2]
          by_cases h3 : n.getD 1 0 > 5
          · rw [decide_eq_true h3]; rfl
          · rw [decide_eq_false h3]
            obtain ⟨j, hj, hja⟩ : ∃ j : Nat, n.getD 1 0 = ((j + 1 : Nat) : Int) ∧ j < a.length := ⟨(n.getD 1 0).toNat - 1, by omega, by omega⟩
            have h5 : a.length ≤ 5 := by
              have := okO_all a ha
              unfold okO at this
              simp only [Bool.and_eq_true, decide_eq_true_eq] at this
              exact this.1.2
            have hbt : b = true := by
              cases b
              · rw [hb rfl] at hja
                exact absurd hja (Nat.not_lt_zero _)
              · rfl
            have hk' : k.length ≤ 1048576 := by
              simp only [KL, List.mem_cons, List.not_mem_nil, or_false] at hk
              rcases hk with rfl | rfl | rfl | rfl | rfl | rfl <;> decide
            obtain ⟨e, h17, hq⟩ := E17_t (lset dR s.1 (j + 1) dR, s.2) m (a := a) (k := k) ha hk' (by
              intro i
              show 0 ≤ ((lset dR s.1 (j + 1) dR).getD i dR).2.1.1.1
              rw [lset_getD]
              split
              · exact Int.le_refl 0
              · exact reg_nn w i)
            have he : e ≠ 0 := by
              intro h0
              refine hq h0 j hja ?_
              show ((lset dR s.1 (j + 1) dR).getD (j + 1) dR).1 = 0
              rw [lset_getD, if_pos rfl]
            have e9 := E9_t (lset dR s.1 (j + 1) dR, s.2) m (n.getD 0 0) h16 h17 hbt he
            obtain ⟨f9, g9⟩ : F9 ((lset dR s.1 (j + 1) dR, s.2), m, n.getD 0 0, ()) = (zS, (e, ())) ∧ G9 ((lset dR s.1 (j + 1) dR, s.2), m, n.getD 0 0, ()) = true := ofE e9
            rw [hj, show Int.toNat ((j + 1 : Nat) : Int) = j + 1 by omega]
            simp only [f9, g9, decide_eq_false he, decide_eq_true (show j + 1 < 11 by omega), decide_eq_true (show 0 ≤ ((j + 1 : Nat) : Int) by omega), decide_eq_true (show ((j + 1 : Nat) : Int) < 11 by omega)]
            rfl
theorem protoWants_pure (x0 : KD6) (w0 : WFv KT17 x0) (s0 : SZ 1048576 KT17 x0) (x1 : List Sp) (w1 : WFv (.vsl KT21) x1) (s1 : SZ 1048576 (.vsl KT21) x1) (x2 : List Int) (w2 : WFv (.arr 2 (.int .i64)) x2) (s2 : SZ 1048576 (.arr 2 (.int .i64)) x2) :
    PureOK Try.prog 5 [⟨KT17, x0⟩, ⟨.vsl KT21, x1⟩, ⟨.arr 2 (.int .i64), x2⟩] ⟨.bool, true⟩ := by
  have h : F5 (x0, x1, x2, ()) = true ∧ G5 (x0, x1, x2, ()) = true := ofE (E5_eq w0 s0.2.2.2.1.1 s1.1)
  have := p5 (x0, x1, x2, ()) h.2
  rw [h.1] at this
  exact this
end Go.Proofs
