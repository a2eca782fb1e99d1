import Derived.Test.YtfhpihomdnbgpaaNP
namespace Go.Proofs.Po
open Go.GX
set_option linter.unusedVariables false
set_option linter.unusedSimpArgs false
theorem wo_lt {id : Int} : ∀ {l : List Int}, id ∈ l → (wo id l).length < l.length
 | x :: r, h => by
  by_cases e : x = id
  ·simp only [wo, List.filter_cons, e, decide_true, Bool.not_true]
   have := List.length_filter_le (fun x => !decide (x = id)) r
   simp only [List.length_cons]
   exact Nat.lt_succ_of_le this
  ·have hr : id ∈ r := by
    rcases List.mem_cons.1 h with h | h
    ·exact absurd h.symm e
    ·exact h
   have := wo_lt hr
   simp only [wo, List.filter_cons, e, decide_false, Bool.not_false, if_true, List.length_cons]
   exact Nat.succ_lt_succ this
theorem wo_ne {id : Int} {l : List Int} {i : Nat} (h : i < (wo id l).length) : (wo id l).getD i 0 ≠ id := by
 rw [List.getD_eq_getElem?_getD, List.getElem?_eq_getElem h]
 have := List.getElem_mem h
 have := (List.mem_filter.1 this).2
 simpa using this
theorem W41_run {s t : KD6} (hl : t.2.2.2.1.length ≤ 1048576) (h : ∀ i, i < t.2.2.2.1.length → t.2.2.2.1.getD i 0 ≠ (s.1.getD 1 dR).2.2.2.1) :
 W4_1 ((), (), 0, s, t, ()) = .inl ((), (), s, t, ()) ∧ Q4_1 ((), (), 0, s, t, ()) = true := by
 have hs := wh_steps (f := V4_1) (fun i => ((), (), ((i : Nat) : Int), s, t, ())) t.2.2.2.1.length (fun i hi => by
  show R4_1 F6 G6 F7 G7 F8 G8 F9 G9 _ _ _ _ () () (i : Int) s t = _
  unfold R4_1
  have e1 : IntKind.wrap .i64 ((i : Int) + 1) = ((i + 1 : Nat) : Int) := by rw [wi64 (by omega)]; omega
  have hne : ¬ t.2.2.2.1.getD i 0 = (s.1.getD 1 (0, (((0, (0, ())), (0, (0, ()))), (0, (0, (0, ())))))).2.2.2.1 := h i hi
  rw [e1, show Int.toNat (i : Int) = i by omega, decide_eq_true (show (i : Int) < ((t.2.2.2.1.length : Nat) : Int) by omega), decide_eq_true (show 0 ≤ (i : Int) by omega), decide_eq_false hne]
  rfl)
 have he : wh V4_1 ((), (), 0, s, t, ()) = some (.inl ((), (), s, t, ())) := hs.trans (wh_stop (by
  show R4_1 F6 G6 F7 G7 F8 G8 F9 G9 _ _ _ _ () () ((t.2.2.2.1.length : Nat) : Int) s t = _
  unfold R4_1
  rw [decide_eq_false (Int.lt_irrefl _)]
  rfl))
 exact ⟨whV_of (hd := hd4_1) (ys := ys4_1) (f := V4_1) he, whK_of (hd := hd4_1) (ys := ys4_1) (f := V4_1) he⟩
theorem W43_run {s t : KD6} (hl : t.2.2.2.1.length ≤ 1048576) (h : t.2.2.2.1 = s.2.2.2.1) :
 W4_3 ((), (), 0, s, t, ()) = .inl () ∧ Q4_3 ((), (), 0, s, t, ()) = true := by
 have hs := wh_steps (f := V4_3) (fun i => ((), (), ((i : Nat) : Int), s, t, ())) t.2.2.2.1.length (fun i hi => by
  show R4_3 F6 G6 F7 G7 F8 G8 F9 G9 _ _ _ _ () () (i : Int) s t = _
  unfold R4_3
  have e1 : IntKind.wrap .i64 ((i : Int) + 1) = ((i + 1 : Nat) : Int) := by rw [wi64 (by omega)]; omega
  rw [e1, show Int.toNat (i : Int) = i by omega, ← h, decide_eq_true (show (i : Int) < ((t.2.2.2.1.length : Nat) : Int) by omega), decide_eq_true (show 0 ≤ (i : Int) by omega), decide_eq_true (rfl : t.2.2.2.1.getD i 0 = t.2.2.2.1.getD i 0)]
  rfl)
 have he : wh V4_3 ((), (), 0, s, t, ()) = some (.inl ()) := hs.trans (wh_stop (by
  show R4_3 F6 G6 F7 G7 F8 G8 F9 G9 _ _ _ _ () () ((t.2.2.2.1.length : Nat) : Int) s t = _
  unfold R4_3
  rw [decide_eq_false (Int.lt_irrefl _)]
  rfl))
 exact ⟨whV_of (hd := hd4_3) (ys := ys4_3) (f := V4_3) he, whK_of (hd := hd4_3) (ys := ys4_3) (f := V4_3) he⟩
theorem E4_eq {s : KD6} {m : List Sp} {n : Int} (w : WFv KT17 s) (hl : s.2.2.2.1.length ≤ 1048576) (hm : m.length ≤ 1048576) : E4 (s, m, n, ()) = some true := by
 have g6 := (F6_t s hl).1
 have g7 := G7_t m hm
 have a8 : F8 () = true ∧ G8 () = true := ⟨rfl, rfl⟩
 show S4 F6 G6 F7 G7 F8 G8 F9 G9 W4_1 Q4_1 W4_3 Q4_3 s m n = _
 unfold S4
 simp only [g6, g7, a8.1, a8.2]
 cases h6 : F6 (s, ()) with
 | false => rfl
 | true =>
  cases F7 (m, ()) with
  | false => rfl
  | true =>
   obtain ⟨t, e, f9, g9, ho⟩ := oCall (s := s) (m := m) (n := n) (reg_nn w) hl ⟨(wf_i64 w.2.2.2.2.1).1, F6_i hl h6⟩
   simp only [f9, g9]
   rcases ho with ⟨he, rfl⟩ | ⟨rfl, s', r, rfl, h1, h2, h3, h4⟩
   ·rw [decide_eq_false he]
    rfl
   ·generalize ht : ((lset dR (cutIn dR s'.1 1 (List.replicate 5 dR)) 0 r, s'.2) : KD6) = t
    have h0 : t.1.getD 0 dR = r := by rw [← ht]; show (lset dR _ 0 r).getD 0 dR = r; rw [lset_getD, if_pos rfl]
    have hids : t.2.2.2.2.1 = s'.2.2.2.2.1 := by rw [← ht]
    have hrefs : t.2.2.2.1 = s'.2.2.2.1 := by rw [← ht]
    rcases h4 with ⟨rfl, q1, q2⟩ | ⟨hn, q1, q2⟩ | ⟨n1, n2, n3, q1, q2⟩
    ·have hR : t.2.2.2.1 = s.2.2.2.1 ++ [t.2.2.2.2.1] := by rw [hrefs, q1, hids]
     have hlen : t.2.2.2.1.length = s.2.2.2.1.length + 1 := by rw [hR]; simp
     have c1 : ((t.2.2.2.1.length : Nat) : Int) = IntKind.wrap .i64 (((s.2.2.2.1.length : Nat) : Int) + 1) := by rw [wi64 (by omega)]; omega
     have c2 : t.2.2.2.1.getD (Int.toNat ((s.2.2.2.1.length : Nat) : Int)) 0 = t.2.2.2.2.1 := by
      rw [show Int.toNat ((s.2.2.2.1.length : Nat) : Int) = s.2.2.2.1.length by omega, hR]
      simp [List.getD]
     have c3 : ((t.1.getD 0 (0, (((0, (0, ())), (0, (0, ()))), (0, (0, (0, ()))))) : Rg)).2.2.2.1 = t.2.2.2.2.1 := by
      have h0 : (t.1.getD 0 (0, (((0, (0, ())), (0, (0, ()))), (0, (0, (0, ()))))) : Rg) = r := h0
      rw [h0, q2, hids]
     rw [decide_eq_true c1, decide_eq_true c2, decide_eq_true c3, decide_eq_true (show 0 ≤ ((s.2.2.2.1.length : Nat) : Int) by omega), decide_eq_true (show ((s.2.2.2.1.length : Nat) : Int) < ((t.2.2.2.1.length : Nat) : Int) by omega)]
     rfl
    ·have hR : t.2.2.2.1 = wo (s.1.getD 1 dR).2.2.2.1 s.2.2.2.1 := by rw [hrefs, q1]
     have hlt : t.2.2.2.1.length < s.2.2.2.1.length := by rw [hR]; exact wo_lt q2
     obtain ⟨w1, w2⟩ := W41_run (s := s) (t := t) (by omega) (fun i hi => by rw [hR] at hi ⊢; exact wo_ne hi)
     rcases hn with rfl | rfl
     ·simp only [w1, w2, getL]
      rw [decide_eq_true (show ((t.2.2.2.1.length : Nat) : Int) < ((s.2.2.2.1.length : Nat) : Int) by omega)]
      rfl
     ·simp only [w1, w2, getL]
      rw [decide_eq_true (show ((t.2.2.2.1.length : Nat) : Int) < ((s.2.2.2.1.length : Nat) : Int) by omega)]
      rfl
    ·have hR : t.2.2.2.1 = s.2.2.2.1 := by rw [hrefs, q1]
     rw [decide_eq_false n1, decide_eq_false n2, decide_eq_false n3]
     by_cases h12 : n = 12
     ·have hz := q2 h12
      rw [decide_eq_true h12, hR, hz]
      rfl
     ·obtain ⟨w1, w2⟩ := W43_run (s := s) (t := t) (by rw [hR]; exact hl) hR
      rw [decide_eq_false h12, w1, w2, decide_eq_true (show ((t.2.2.2.1.length : Nat) : Int) = ((s.2.2.2.1.length : Nat) : Int) by rw [hR])]
      rfl
theorem protoHolds_pure (x0 : KD6) (w0 : WFv KT17 x0) (s0 : SZ 1048576 KT17 x0) (x1 : List Sp) (w1 : WFv (.vsl KT21) x1) (s1 : SZ 1048576 (.vsl KT21) x1) (x2 : Int) (w2 : WFv (.int .i64) x2) (s2 : SZ 1048576 (.int .i64) x2) :
 PureOK Try.prog 4 [⟨KT17, x0⟩, ⟨.vsl KT21, x1⟩, ⟨.int .i64, x2⟩] ⟨.bool, true⟩ := by
 have h : F4 (x0, x1, x2, ()) = true ∧ G4 (x0, x1, x2, ()) = true := ofE (E4_eq w0 s0.2.2.2.1.1 s1.1)
 have := p4 (x0, x1, x2, ()) h.2
 rw [h.1] at this
 exact this
end Go.Proofs.Po
namespace Go.Proofs
open Go.GX
theorem protoHolds_pure (x0 : KD6) (w0 : WFv KT17 x0) (s0 : SZ 1048576 KT17 x0) (x1 : List Sp) (w1 : WFv (.vsl KT21) x1) (s1 : SZ 1048576 (.vsl KT21) x1) (x2 : Int) (w2 : WFv (.int .i64) x2) (s2 : SZ 1048576 (.int .i64) x2) :
 PureOK Try.prog 4 [⟨KT17, x0⟩, ⟨.vsl KT21, x1⟩, ⟨.int .i64, x2⟩] ⟨.bool, true⟩ := Po.protoHolds_pure x0 w0 s0 x1 w1 s1 x2 w2 s2
end Go.Proofs
