import Derived.Test.YtaajacejgkcehaaMG
import Derived.Test.YtaajacejgkcehaaGc
namespace Go.Proofs
open Go.GX
set_option linter.unusedVariables false
set_option linter.unusedSimpArgs false
abbrev z1 : Sc := ((0, 0, ()), 0, 0, ())
theorem F14_t : F14 () = true ∧ G14 () = true := ⟨rfl, rfl⟩
theorem E6_eq {op : Int} {w : Bool} {l : List Sc} (h0 : RS (l.getD 0 z1)) (h1 : RS (l.getD 1 z1)) : E6 (op, w, l, ()) = some true := by
  show S6 F7 G7 F8 G8 F12 G12 F14 G14 op w l = _
  unfold S6
  have ra := RS_wide h0
  have rb := RS_wide h1
  simp only [(F7_eq _).1, (F7_eq _).2, (F8_eq op w _ _ ra.2.2 rb.2.2).1, (F8_eq op w _ _ ra.2.2 rb.2.2).2, (F12_eq _).1, (F12_eq _).2, F14_t.1, F14_t.2]
  have hn := rf_nar (op := op) (w := w) ra rb
  unfold Nar Nrw at hn
  generalize rf op w (wideF (l.getD 0 z1)) (wideF (l.getD 1 z1)) = r at *
  by_cases h : notF op < 0
  · rw [decide_eq_false (show ¬ notF op ≥ 0 by omega)]
    cases h2 : r.2.2.1
    · rfl
    · obtain ⟨⟨n1, n2⟩, n3, n4⟩ := hn h2
      rw [decide_eq_true (show r.1.2.1 ≥ _ from n1), decide_eq_true n2, decide_eq_true (show r.2.1.2.1 ≥ _ from n3), decide_eq_true n4]
      rfl
  · rw [decide_eq_true (show notF op ≥ 0 by omega), notF_notF h, decide_eq_true (rfl : op = op)]
    cases h2 : r.2.2.1
    · rfl
    · obtain ⟨⟨n1, n2⟩, n3, n4⟩ := hn h2
      rw [decide_eq_true (show r.1.2.1 ≥ _ from n1), decide_eq_true n2, decide_eq_true (show r.2.1.2.1 ≥ _ from n3), decide_eq_true n4]
      rfl
theorem F15_ex (s : Sc) (n : Int) : ∃ x ok, F15 (s, n, ()) = (x, ok, ()) ∧ G15 (s, n, ()) = true ∧ (ok = true → hasS s x = true) := by
  obtain ⟨x, ok, h1, h2⟩ := E15_ex s n
  have h : F15 (s, n, ()) = (x, ok, ()) ∧ G15 (s, n, ()) = true := ofE h1
  exact ⟨x, ok, h.1, h.2, h2⟩
theorem E5_eq {op : Int} {w : Bool} {l : List Sc} (h0 : RS (l.getD 0 z1)) (h1 : RS (l.getD 1 z1)) : E5 (op, w, l, ()) = some true := by
  show S5 F7 G7 F10 G10 F14 G14 F15 G15 F16 G16 op w l = _
  unfold S5
  have ra := RS_wide h0
  have rb := RS_wide h1
  have ma := may_wide (l.getD 0 z1)
  have mb := may_wide (l.getD 1 z1)
  simp only [(F7_eq _).1, (F7_eq _).2, (F10_eq op w _ _ ra.2.2 rb.2.2).1, (F10_eq op w _ _ ra.2.2 rb.2.2).2, (F16_eq _ _ _ _).1, (F16_eq _ _ _ _).2, F14_t.1, F14_t.2]
  generalize (l.getD 0 z1).2.2.1 = n0
  generalize (l.getD 1 z1).2.1 = n1
  generalize wideF (l.getD 0 z1) = a at *
  generalize wideF (l.getD 1 z1) = b at *
  obtain ⟨x, ok, u1, u2, u3⟩ := F15_ex a n1
  obtain ⟨y, is, v1, v2, v3⟩ := F15_ex b n0
  simp only [u1, u2, v1, v2]
  have hv := alw_v (op := op) (w := w) (a := a) (b := b)
  have hs := fun (hx : hasS a x = true) (hy : hasS b y = true) => alw_snd (op := op) (w := w) ra rb ma mb hx hy
  generalize alw op w a b = r at *
  cases hk : r.2.1
  · rw [hv hk]; cases ok <;> cases is <;> rfl
  · cases ok
    · cases is <;> (cases r.1 <;> rfl)
    · cases is
      · cases r.1 <;> rfl
      · obtain ⟨s1, s2⟩ := hs (u3 rfl) (v3 rfl) hk
        rw [s1, s2]
        cases r.1 <;> rfl
theorem E3_eq {op : Int} {w : Bool} {l : List Sc} (h0 : RS (l.getD 0 z1)) (h1 : RS (l.getD 1 z1)) : E3 (op, w, l, ()) = some true := by
  show S3 F7 G7 F8 G8 F9 G9 F10 G10 F11 G11 F12 G12 F13 G13 F14 G14 op w l = _
  unfold S3
  have ra := RS_wide h0
  have rb := RS_wide h1
  simp only [(F7_eq _).1, (F7_eq _).2, (F8_eq op w _ _ ra.2.2 rb.2.2).1, (F8_eq op w _ _ ra.2.2 rb.2.2).2, (F9_eq op w _ _).1, (F9_eq op w _ _).2, (F10_eq op w _ _ ra.2.2 rb.2.2).1, (F10_eq op w _ _ ra.2.2 rb.2.2).2,
    (F11_eq op w _ _).1, (F11_eq op w _ _).2, (F12_eq _).1, (F12_eq _).2, (F13_eq _).1, (F13_eq _).2, F14_t.1, F14_t.2, tt_eq, decide_true, Bool.and_true, cond_true, beq_self_eq_true]
theorem V4_in {op : Int} {w m : Bool} {xs ys : List Int} {a b s t : Sc} {i : Nat} (hi : i < 4) (hx : xs.length = 4) (hy : ys.length = 4)
    (h : ∀ x y, hasS a x = true → hasS b y = true → (ts2 op w x y).2.1 = true → (ts2 op w x y).1 = true → m = true ∧ hasS s x = true ∧ hasS t y = true) :
    V4_0 (op, w, (), (), (), (), m, xs, ys, (i : Int), a, b, s, t, ()) = some (.inl (op, w, (), (), (), (), m, xs, ys, ((i + 1 : Nat) : Int), a, b, s, t, ())) := by
  unfold V4_0 R4_0
  dsimp only
  rw [show 0 + Int.toNat (i : Int) = i by omega, wi64 (a := (i : Int) + 1) (by omega), sec_full rfl, sec_full rfl]
  refine (bif_t (decide_eq_true (by omega))).trans ?_
  obtain ⟨x, ok, u1, u2, u3⟩ := F15_ex a (xs.getD i 0)
  obtain ⟨y, is, v1, v2, v3⟩ := F15_ex b (ys.getD i 0)
  simp only [u1, u2, v1, v2, (F16_eq _ _ _ _).1, (F16_eq _ _ _ _).2, (F17_eq _ _).1, (F17_eq _ _).2]
  rw [decide_eq_true (show 0 + xs.length ≤ xs.length by omega), decide_eq_true (show 0 + ys.length ≤ ys.length by omega), decide_eq_true (show i < xs.length by omega), decide_eq_true (show i < ys.length by omega), decide_eq_true (show (0 : Int) ≤ (i : Int) by omega),
    decide_eq_true (show (i : Int) < ((xs.length : Nat) : Int) by omega), decide_eq_true (show (i : Int) < ((ys.length : Nat) : Int) by omega)]
  cases ok
  · rfl
  · cases is
    · rfl
    · have hh := h x y (u3 rfl) (v3 rfl)
      cases hk : (ts2 op w x y).2.1
      · rfl
      · cases ht : (ts2 op w x y).1
        · rfl
        · obtain ⟨k1, k2, k3⟩ := hh hk ht
          rw [k1, k2, k3]
          rfl
theorem V4_end {op : Int} {w m : Bool} {xs ys : List Int} {a b s t : Sc} : V4_0 (op, w, (), (), (), (), m, xs, ys, 4, a, b, s, t, ()) = some (.inr (.inl ())) := rfl
theorem E4_eq {op : Int} {w : Bool} {l : List Sc} (h0 : RS (l.getD 0 z1)) (h1 : RS (l.getD 1 z1)) : E4 (op, w, l, ()) = some true := by
  show S4 F7 G7 F8 G8 F14 G14 F15 G15 F16 G16 F17 G17 W4_0 Q4_0 op w l = _
  unfold S4
  have ra := RS_wide h0
  have rb := RS_wide h1
  have ma := may_wide (l.getD 0 z1)
  have mb := may_wide (l.getD 1 z1)
  simp only [(F7_eq _).1, (F7_eq _).2, (F8_eq op w _ _ ra.2.2 rb.2.2).1, (F8_eq op w _ _ ra.2.2 rb.2.2).2, F14_t.1, F14_t.2]
  generalize hx : [(l.getD 0 z1).2.1, (l.getD 0 z1).2.2.1, (l.getD 1 z1).2.2.1, (l.getD 1 z1).2.1] = xs
  generalize hy : [(l.getD 1 z1).2.1, (l.getD 1 z1).2.2.1, (l.getD 0 z1).2.2.1, (l.getD 0 z1).2.1] = ys
  have lx : xs.length = 4 := by rw [← hx]; rfl
  have ly : ys.length = 4 := by rw [← hy]; rfl
  generalize wideF (l.getD 0 z1) = a at *
  generalize wideF (l.getD 1 z1) = b at *
  have h : ∀ x y, hasS a x = true → hasS b y = true → (ts2 op w x y).2.1 = true → (ts2 op w x y).1 = true → (rf op w a b).2.2.1 = true ∧ hasS (rf op w a b).1 x = true ∧ hasS (rf op w a b).2.1 y = true := by
    intro x y k1 k2 k3 k4
    obtain ⟨s, t, e, g1, g2⟩ := rf_snd ra rb ma mb k1 k2 k4 k3
    rw [e]; exact ⟨rfl, g1, g2⟩
  generalize rf op w a b = r at *
  have hw := (wh_steps (f := V4_0) (fun i => (op, w, (), (), (), (), r.2.2.1, xs, ys, (i : Int), a, b, r.1, r.2.1, ())) 4 (fun i hi => V4_in hi lx ly h)).trans (wh_stop V4_end)
  have e1 : W4_0 (op, w, (), (), (), (), r.2.2.1, xs, ys, 0, a, b, r.1, r.2.1, ()) = .inl () := whV_of (hd := hd4_0) (ys := ys4_0) hw
  have e2 : Q4_0 (op, w, (), (), (), (), r.2.2.1, xs, ys, 0, a, b, r.1, r.2.1, ()) = true := whK_of (hd := hd4_0) (ys := ys4_0) hw
  rw [e1, e2]
  rfl
/-! ## The laws -/
theorem inR_wf {a : Int} (h : (Lit.int .u64 a).wf = true) : InR a := wf_u64 h
theorem RS_of {s : Sc} (h : WFv (.pair (.pair (.int .u64) (.pair (.int .u64) .unit)) (.pair (.int .u64) (.pair (.int .u64) .unit))) s) : RS s :=
  ⟨⟨inR_wf h.1.1, inR_wf h.1.2.1⟩, inR_wf h.2.1, inR_wf h.2.2.1⟩
theorem RS_at {l : List Sc} {n : Nat} (h : WFv (.arr n (.pair (.pair (.int .u64) (.pair (.int .u64) .unit)) (.pair (.int .u64) (.pair (.int .u64) .unit)))) l) {i : Nat} (hi : i < n) : RS (l.getD i z1) := by
  have hl : i < l.length := by rw [h.1]; exact hi
  rw [getD_lt hl]
  exact RS_of (h.2 _ (List.getElem_mem hl))
theorem branchRefines_pure (x0 : Int) (w0 : WFv (.int .i64) x0) (x1 : Bool) (w1 : WFv .bool x1) (x2 : List Sc) (w2 : WFv (.arr 2 (.pair (.pair (.int .u64) (.pair (.int .u64) .unit)) (.pair (.int .u64) (.pair (.int .u64) .unit)))) x2) :
    PureOK Try.prog 3 [⟨.int .i64, x0⟩, ⟨.bool, x1⟩, ⟨.arr 2 (.pair (.pair (.int .u64) (.pair (.int .u64) .unit)) (.pair (.int .u64) (.pair (.int .u64) .unit))), x2⟩] ⟨.bool, true⟩ := by
  have h : F3 (x0, x1, x2, ()) = true ∧ G3 (x0, x1, x2, ()) = true := ofE (E3_eq (RS_at w2 (by omega)) (RS_at w2 (by omega)))
  have := p3 (x0, x1, x2, ()) h.2
  rw [h.1] at this
  exact this
theorem branchSound_pure (x0 : Int) (w0 : WFv (.int .i64) x0) (x1 : Bool) (w1 : WFv .bool x1) (x2 : List Sc) (w2 : WFv (.arr 2 (.pair (.pair (.int .u64) (.pair (.int .u64) .unit)) (.pair (.int .u64) (.pair (.int .u64) .unit)))) x2) :
    PureOK Try.prog 4 [⟨.int .i64, x0⟩, ⟨.bool, x1⟩, ⟨.arr 2 (.pair (.pair (.int .u64) (.pair (.int .u64) .unit)) (.pair (.int .u64) (.pair (.int .u64) .unit))), x2⟩] ⟨.bool, true⟩ := by
  have h : F4 (x0, x1, x2, ()) = true ∧ G4 (x0, x1, x2, ()) = true := ofE (E4_eq (RS_at w2 (by omega)) (RS_at w2 (by omega)))
  have := p4 (x0, x1, x2, ()) h.2
  rw [h.1] at this
  exact this
theorem branchAlways_pure (x0 : Int) (w0 : WFv (.int .i64) x0) (x1 : Bool) (w1 : WFv .bool x1) (x2 : List Sc) (w2 : WFv (.arr 2 (.pair (.pair (.int .u64) (.pair (.int .u64) .unit)) (.pair (.int .u64) (.pair (.int .u64) .unit)))) x2) :
    PureOK Try.prog 5 [⟨.int .i64, x0⟩, ⟨.bool, x1⟩, ⟨.arr 2 (.pair (.pair (.int .u64) (.pair (.int .u64) .unit)) (.pair (.int .u64) (.pair (.int .u64) .unit))), x2⟩] ⟨.bool, true⟩ := by
  have h : F5 (x0, x1, x2, ()) = true ∧ G5 (x0, x1, x2, ()) = true := ofE (E5_eq (RS_at w2 (by omega)) (RS_at w2 (by omega)))
  have := p5 (x0, x1, x2, ()) h.2
  rw [h.1] at this
  exact this
theorem branchNarrows_pure (x0 : Int) (w0 : WFv (.int .i64) x0) (x1 : Bool) (w1 : WFv .bool x1) (x2 : List Sc) (w2 : WFv (.arr 2 (.pair (.pair (.int .u64) (.pair (.int .u64) .unit)) (.pair (.int .u64) (.pair (.int .u64) .unit)))) x2) :
    PureOK Try.prog 6 [⟨.int .i64, x0⟩, ⟨.bool, x1⟩, ⟨.arr 2 (.pair (.pair (.int .u64) (.pair (.int .u64) .unit)) (.pair (.int .u64) (.pair (.int .u64) .unit))), x2⟩] ⟨.bool, true⟩ := by
  have h : F6 (x0, x1, x2, ()) = true ∧ G6 (x0, x1, x2, ()) = true := ofE (E6_eq (RS_at w2 (by omega)) (RS_at w2 (by omega)))
  have := p6 (x0, x1, x2, ()) h.2
  rw [h.1] at this
  exact this
end Go.Proofs
