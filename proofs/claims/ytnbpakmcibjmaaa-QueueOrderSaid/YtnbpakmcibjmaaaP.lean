import Derived.Test.YtnbpakmcibjmaaaN
namespace Go.Proofs
open Go.GX
set_option linter.unusedVariables false
set_option linter.unusedSimpArgs false
/-! ## The law's loop: both do each deed alike -/
abbrev Deeds := List (Int × KDo13)
def act (s : Sp) (q : List (List UInt8)) (d : Int × KDo13) : List (List UInt8) := bif decide (d.1 = 0) then (psh s q d.2.2.1 d.2.1).2 else bif decide (d.1 = 1) then pop s q else q
theorem act_le {s : Sp} {q : List (List UInt8)} {d : Int × KDo13} (hq : ((q.length : Nat) : Int) ≤ s.2.2.2.1) (hm : 1 ≤ s.2.2.2.1) : (((act s q d).length : Nat) : Int) ≤ s.2.2.2.1 := by
  unfold act
  cases decide (d.1 = 0)
  · cases decide (d.1 = 1)
    · exact hq
    · exact Int.le_trans (Int.ofNat_le.mpr pop_le) hq
  · exact psh_le hq hm
abbrev L0 (l : Deeds) (s : Sp) (q : List (List UInt8)) (i : Nat) : (Deeds × Unit × Unit × Int × KDo14 × KDo15 × Unit) := (l, (), (), (i : Int), (s, ((q, ()), ())), (s, (q, ())), ())
theorem put {r : List (List UInt8)} : sec [] r 0 r.length = r := sec_full rfl
theorem le0 {r : List (List UInt8)} : decide (0 + r.length ≤ r.length) = true := decide_eq_true (by omega)
theorem V3_step {l : Deeds} {s : Sp} {q : List (List UInt8)} {i : Nat} (hl : l.length ≤ 9223372036854775807) (hi : i < l.length) (hq : ((q.length : Nat) : Int) ≤ s.2.2.2.1) (hm : 1 ≤ s.2.2.2.1) (hM : s.2.2.2.1 ≤ 4096) : V3_0 (L0 l s q i) = some (.inl (L0 l s (act s q (l.getD i (0, (0, ([], ()))))) (i + 1))) := by
  have hq' : q.length ≤ 4096 := by omega
  show R3_0 F7 H7 G7 F8 H8 G8 F9 H9 G9 F10 H10 G10 F11 H11 G11 F12 H12 G12 F13 G13 F14 G14 F15 G15 F16 G16 _ _ l () () (i : Int) (s, ((q, ()), ())) (s, (q, ())) = _
  unfold R3_0
  dsimp only
  have e1 : IntKind.wrap .i64 ((i : Int) + 1) = ((i + 1 : Nat) : Int) := by rw [wi64 (by omega)]; omega
  rw [e1, show Int.toNat (i : Int) = i by omega]
  generalize l.getD i (0, (0, ([], ()))) = d
  have hi' : decide ((i : Int) < ((l.length : Nat) : Int)) = true := decide_eq_true (by omega)
  have hi0 : decide (0 ≤ (i : Int)) = true := decide_eq_true (by omega)
  simp only [put, le0, hi', hi0]
  unfold act
  by_cases h0 : d.1 = 0
  · have ha := act_le (d := d) hq hm
    unfold act at ha
    rw [decide_eq_true h0] at ha
    rw [decide_eq_true h0]
    have hp : (psh s q d.2.2.1 d.2.1).2.length ≤ 4096 := by
      have : (((psh s q d.2.2.1 d.2.1).2.length : Nat) : Int) ≤ s.2.2.2.1 := ha
      omega
    simp only [F9_e hq' hm, F10_e hq' hm, F15_e, put, le0, decide_true]
    rfl
  · rw [decide_eq_false h0]
    by_cases h1 : d.1 = 1
    · rw [decide_eq_true h1]
      simp only [F11_e hq', F12_e hq', F15_e, put, le0, decide_true, beq_self_eq_true]
      rfl
    · rw [decide_eq_false h1]
      simp only [F13_e hq', F14_e hq', F15_e, put, le0, decide_true, beq_self_eq_true]
      rfl
theorem V3_stop {l : Deeds} {s : Sp} {q : List (List UInt8)} {i : Nat} (hi : l.length ≤ i) : V3_0 (L0 l s q i) = some (.inr (.inl ())) := by
  show R3_0 F7 H7 G7 F8 H8 G8 F9 H9 G9 F10 H10 G10 F11 H11 G11 F12 H12 G12 F13 G13 F14 G14 F15 G15 F16 G16 _ _ l () () (i : Int) (s, ((q, ()), ())) (s, (q, ())) = _
  unfold R3_0
  rw [decide_eq_false (show ¬ (i : Int) < ((l.length : Nat) : Int) by omega)]
  rfl
theorem wh3 {l : Deeds} {s : Sp} (hl : l.length ≤ 9223372036854775807) (hm : 1 ≤ s.2.2.2.1) (hM : s.2.2.2.1 ≤ 4096) : ∀ (n i : Nat) (q : List (List UInt8)), l.length ≤ i + n → ((q.length : Nat) : Int) ≤ s.2.2.2.1 → wh V3_0 (L0 l s q i) = some (.inl ())
  | 0, i, q, hn, hq => wh_stop (V3_stop (by omega))
  | n + 1, i, q, hn, hq => by
    by_cases hi : l.length ≤ i
    · exact wh_stop (V3_stop hi)
    · rw [wh_next (V3_step hl (by omega) hq hm hM)]
      exact wh3 hl hm hM n (i + 1) _ (by omega) (act_le hq hm)
theorem E3_eq {s : Sp} {l : Deeds} (h : may s) (hl : l.length ≤ 9223372036854775807) : E3 (s, l, ()) = some true := by
  have hm := h
  obtain ⟨h1, h2, h3, h4, h5, h6⟩ := hm
  have hw := wh3 (s := s) hl (by omega) (by omega) l.length 0 [] (by omega) (by show (0 : Int) ≤ _; omega)
  have w1 : W3_0 (L0 l s [] 0) = .inl () := whV_of hw
  have w2 : Q3_0 (L0 l s [] 0) = true := whK_of hw
  have a7 : F7 (s, ()) = (0, ()) ∧ H7 (s, ()) = ob s [] ∧ G7 (s, ()) = true := by
    have e := E7_eq h
    refine ⟨?_, ?_, by show (E7 (s, ())).isSome = true; rw [e]; rfl⟩
    · show ((E7 (s, ())).getD _).1 = _; rw [e]; rfl
    · show ((E7 (s, ())).getD _).2 = _; rw [e]; rfl
  have a8 : F8 (s, ()) = (0, ()) ∧ H8 (s, ()) = or_ s [] ∧ G8 (s, ()) = true := by
    have e := E8_eq h
    refine ⟨?_, ?_, by show (E8 (s, ())).isSome = true; rw [e]; rfl⟩
    · show ((E8 (s, ())).getD _).1 = _; rw [e]; rfl
    · show ((E8 (s, ())).getD _).2 = _; rw [e]; rfl
  have a16 : F16 () = true ∧ G16 () = true := ⟨rfl, rfl⟩
  show S3 F7 H7 G7 F8 H8 G8 F9 H9 G9 F10 H10 G10 F11 H11 G11 F12 H12 G12 F13 G13 F14 G14 F15 G15 F16 G16 W3_0 Q3_0 s l = _
  unfold S3
  rw [a7.1, a7.2.1, a7.2.2, a8.1, a8.2.1, a8.2.2, a16.1, a16.2]
  dsimp only
  rw [show sec ([] : List UInt8) [] 0 ([] : List (List UInt8)).length = [] from rfl]
  rw [show W3_0 (l, (), (), 0, (s, (([], ()), ())), (s, ([], ())), ()) = .inl () from w1, show Q3_0 (l, (), (), 0, (s, (([], ()), ())), (s, ([], ())), ()) = true from w2]
  rfl
theorem E3n_eq {s : Sp} {l : Deeds} (h : ¬ may s) : E3n (s, l, ()) = some true := by
  have hw : wh V3n_0 (l, (), (), 0, ()) = some () := wh_stop (by
    show R3n_0 F7n G7n F8n G8n F16 G16 _ _ l () () 0 = _
    unfold R3n_0
    cases decide ((0 : Int) < ((l.length : Nat) : Int)) <;> rfl)
  have w2 : Q3n_0 (l, (), (), 0, ()) = true := whK_of hw
  have a7 : F7n (s, ()) = (1, ()) ∧ G7n (s, ()) = true := by
    have e := E7n_eq h
    exact ⟨by show (E7n (s, ())).getD _ = _; rw [e]; rfl, by show (E7n (s, ())).isSome = true; rw [e]; rfl⟩
  have a8 : F8n (s, ()) = (1, ()) ∧ G8n (s, ()) = true := by
    have e := E8n_eq h
    exact ⟨by show (E8n (s, ())).getD _ = _; rw [e]; rfl, by show (E8n (s, ())).isSome = true; rw [e]; rfl⟩
  have a16 : F16 () = true ∧ G16 () = true := ⟨rfl, rfl⟩
  show S3n F7n G7n F8n G8n F16 G16 W3n_0 Q3n_0 s l = _
  unfold S3n
  rw [a7.1, a7.2, a8.1, a8.2, a16.1, a16.2, w2]
  rfl
/-! ## The law -/
theorem queuePlays_pure (x0 : Sp) (w0 : WFv KTo5 x0) (x1 : Deeds) (w1 : WFv (.vsl KTo12) x1) :
    PureOK Try.prog 3 [⟨KTo5, x0⟩, ⟨.vsl KTo12, x1⟩] ⟨.bool, true⟩ := by
  have hl : x1.length ≤ 9223372036854775807 := w1.1
  by_cases h : may x0
  · have h : F3 (x0, x1, ()) = true ∧ G3 (x0, x1, ()) = true := ofE (E3_eq h hl)
    have := p3 (x0, x1, ()) h.2
    rw [h.1] at this
    exact this
  · have h : F3n (x0, x1, ()) = true ∧ G3n (x0, x1, ()) = true := ofE (E3n_eq h)
    have := p3n (x0, x1, ()) h.2
    rw [h.1] at this
    exact this
end Go.Proofs
