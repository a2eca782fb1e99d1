import Derived.Test.YtnbpakmcibjmaaaIK
import Derived.Test.YtnbpakmcibjmaaaP
namespace Go.Proofs
open Go.GX
set_option linter.unusedVariables false
set_option linter.unusedSimpArgs false
/-! ## QueueKeeps: what is refused changes nothing -/
def s3 : Sp := (22, (0, (1, (3, ()))))
theorem psh3 {q : List (List UInt8)} {v : List UInt8} (hq : q.length ≤ 3) : (if (psh s3 q v 0).1 = 0 then (psh s3 q v 0).2 = q ++ [v] else (psh s3 q v 0).2 = q) ∧ (psh s3 q v 0).2.length ≤ 3 := by
  have hl : (((psh s3 q v 0).2.length : Nat) : Int) ≤ 3 := psh_le (s := s3) (q := q) (v := v) (f := 0) (by show _ ≤ (3 : Int); omega) (by show (1 : Int) ≤ 3; omega)
  refine ⟨?_, by omega⟩
  unfold psh
  cases okp s3 v 0
  · rfl
  · by_cases hM : ((q.length : Nat) : Int) = s3.2.2.2.1
    · rw [decide_eq_true hM]; rfl
    · rw [decide_eq_false hM]; rfl
theorem pshx {q : List (List UInt8)} {v : List UInt8} {f : Int} : psh s3 q (v ++ ([120, 120] : List UInt8)) f = (1, q) := by
  have : okp s3 (v ++ ([120, 120] : List UInt8)) f = false := by
    unfold okp
    rw [decide_eq_false (show ¬ (((v ++ ([120, 120] : List UInt8)).length : Nat) : Int) = s3.2.2.1 by
      rw [List.length_append]; show ¬ ((v.length + 2 : Nat) : Int) = 1; omega)]
    rfl
  unfold psh
  rw [this]; rfl
abbrev L6 (l : List (List UInt8)) (d : Int × KDk13) (q : List (List UInt8)) (i : Nat) : ((List (List UInt8)) × Unit × Unit × (List (List UInt8)) × Int × (Int × KDk13) × KDk1 × Unit) := (l, (), (), q, (i : Int), d, (s3, ((q, ()), ())), ())
theorem V6_step {l : List (List UInt8)} {d : Int × KDk13} {q : List (List UInt8)} {i : Nat} (hi : i < l.length) (h20 : i < 20) (hq : q.length ≤ 3) (hd : d.2.2.1.length ≤ 1048576) : V6_0 (L6 l d q i) = some (.inl (L6 l d (psh s3 q (l.getD i []) 0).2 (i + 1))) := by
  have hq' : q.length ≤ 4096 := by omega
  have hm : 1 ≤ s3.2.2.2.1 := by show (1 : Int) ≤ 3; omega
  show R6_0 F7 H7 G7 F9 H9 G9 F11 H11 G11 F15 G15 F16 G16 _ _ _ _ l () () q (i : Int) d (s3, ((q, ()), ())) = _
  unfold R6_0
  dsimp only
  have e1 : IntKind.wrap .i64 ((i : Int) + 1) = ((i + 1 : Nat) : Int) := by rw [wi64 (by omega)]; omega
  rw [e1, show Int.toNat (i : Int) = i by omega]
  generalize l.getD i [] = v
  have hi' : decide ((i : Int) < ((l.length : Nat) : Int)) = true := decide_eq_true (by omega)
  have hi0 : decide (0 ≤ (i : Int)) = true := decide_eq_true (by omega)
  have hi2 : decide ((i : Int) < 20) = true := decide_eq_true (by omega)
  have hdl : decide (d.2.2.1.length + 2 ≤ 9223372036854775807) = true := decide_eq_true (by omega)
  have hqa : decide ((q.length + 1) * 16 ≤ 140737488355328) = true := decide_eq_true (by omega)
  have hqb : decide (0 + (q.length + 1) ≤ q.length + 1) = true := decide_eq_true (by omega)
  obtain ⟨hr, hl⟩ := psh3 (v := v) hq
  have hl' : (psh s3 q v 0).2.length ≤ 4096 := by omega
  simp only [put, le0, hi', hi0, hi2, F9_e hq' hm, F9_e hl' hm, pshx, F15_e, hdl, hqa, hqb, decide_true]
  by_cases h0 : (psh s3 q v 0).1 = 0
  · rw [if_pos h0] at hr
    rw [decide_eq_true h0, hr]
    have hs : sec [] (q ++ [v]) 0 (q.length + 1) = q ++ [v] := sec_full (by simp)
    simp only [hs]
    rfl
  · rw [if_neg h0] at hr
    rw [decide_eq_false h0, hr]
    rfl
theorem V6_stop {l : List (List UInt8)} {d : Int × KDk13} {q : List (List UInt8)} {i : Nat} (hi : l.length ≤ i ∨ 20 ≤ i) : V6_0 (L6 l d q i) = some (.inr (.inl ((), q, (s3, ((q, ()), ())), ()))) := by
  show R6_0 F7 H7 G7 F9 H9 G9 F11 H11 G11 F15 G15 F16 G16 _ _ _ _ l () () q (i : Int) d (s3, ((q, ()), ())) = _
  unfold R6_0
  dsimp only
  simp only [put, le0]
  by_cases h1 : (i : Int) < ((l.length : Nat) : Int)
  · rw [decide_eq_true h1, decide_eq_false (show ¬ (i : Int) < 20 by omega)]; rfl
  · rw [decide_eq_false h1]; rfl
theorem wh6 {l : List (List UInt8)} {d : Int × KDk13} (hd : d.2.2.1.length ≤ 1048576) : ∀ (n i : Nat) (q : List (List UInt8)), 20 ≤ i + n → q.length ≤ 3 → ∃ q', q'.length ≤ 3 ∧ wh V6_0 (L6 l d q i) = some (.inl ((), q', (s3, ((q', ()), ())), ()))
  | 0, i, q, hn, hq => ⟨q, hq, wh_stop (V6_stop (.inr (by omega)))⟩
  | n + 1, i, q, hn, hq => by
    by_cases hi : l.length ≤ i
    · exact ⟨q, hq, wh_stop (V6_stop (.inl hi))⟩
    · by_cases h2 : 20 ≤ i
      · exact ⟨q, hq, wh_stop (V6_stop (.inr h2))⟩
      · rw [wh_next (V6_step (by omega) (by omega) hq hd)]
        exact wh6 hd n (i + 1) _ (by omega) (psh3 hq).2
theorem pk3 {w : List (List UInt8)} {i : Nat} (hi : i < w.length) : pk s3 (w.drop i) = (w.getD i [], 0, ()) := by
  unfold pk
  have hl : (w.drop i).length = w.length - i := by simp
  rw [decide_eq_false (show ¬ (w.drop i).length = 0 by omega)]
  have e : pl s3 (w.drop i) = 0 := rfl
  rw [e]
  have h2 : (w.drop i).getD 0 [] = w.getD i [] := by simp [List.getD, hi]
  rw [h2]; rfl
theorem pop3 {w : List (List UInt8)} {i : Nat} (hi : i < w.length) : pop s3 (w.drop i) = w.drop (i + 1) := by
  unfold pop
  have hl : (w.drop i).length = w.length - i := by simp
  rw [decide_eq_false (show ¬ (w.drop i).length = 0 by omega)]
  have e : pl s3 (w.drop i) = 0 := rfl
  rw [e]
  show List.take 0 (w.drop i) ++ List.drop (0 + 1) (w.drop i) = _
  rw [List.drop_drop]; rfl
abbrev M6 (w : List (List UInt8)) (i : Nat) : (Unit × (List (List UInt8)) × Int × KDk2 × Unit) := ((), w, (i : Int), (s3, ((w.drop i, ()), ())), ())
theorem V62_step {w : List (List UInt8)} {i : Nat} (hw : w.length ≤ 3) (hi : i < w.length) : V6_2 (M6 w i) = some (.inl (M6 w (i + 1))) := by
  have hq' : (w.drop i).length ≤ 4096 := by simp; omega
  show R6_2 F7 H7 G7 F9 H9 G9 F11 H11 G11 F15 G15 F16 G16 _ _ _ _ () w (i : Int) (s3, ((w.drop i, ()), ())) = _
  unfold R6_2
  dsimp only
  have e1 : IntKind.wrap .i64 ((i : Int) + 1) = ((i + 1 : Nat) : Int) := by rw [wi64 (by omega)]; omega
  rw [e1, show Int.toNat (i : Int) = i by omega, show 0 + i = i by omega]
  have hi' : decide ((i : Int) < ((w.length : Nat) : Int)) = true := decide_eq_true (by omega)
  have hi0 : decide (0 ≤ (i : Int)) = true := decide_eq_true (by omega)
  have hi1 : decide (i < w.length) = true := decide_eq_true hi
  simp only [put, le0, hi', hi0, hi1, F11_e hq', pk3 hi, pop3 hi, beq_self_eq_true, decide_true]
  rfl
theorem V62_stop {w : List (List UInt8)} {i : Nat} (hi : w.length ≤ i) : V6_2 (M6 w i) = some (.inr (.inl ((), w, (s3, (([], ()), ())), ()))) := by
  have e : w.drop i = [] := List.drop_eq_nil_of_le hi
  show R6_2 F7 H7 G7 F9 H9 G9 F11 H11 G11 F15 G15 F16 G16 _ _ _ _ () w (i : Int) (s3, ((w.drop i, ()), ())) = _
  rw [e]
  unfold R6_2
  dsimp only
  simp only [put, le0]
  rw [decide_eq_false (show ¬ (i : Int) < ((w.length : Nat) : Int) by omega)]
  rfl
theorem wh62 {w : List (List UInt8)} (hw : w.length ≤ 3) : ∀ (n i : Nat), w.length ≤ i + n → wh V6_2 (M6 w i) = some (.inl ((), w, (s3, (([], ()), ())), ()))
  | 0, i, hn => wh_stop (V62_stop (by omega))
  | n + 1, i, hn => by
    by_cases hi : w.length ≤ i
    · exact wh_stop (V62_stop hi)
    · rw [wh_next (V62_step hw (by omega))]
      exact wh62 hw n (i + 1) (by omega)
theorem may3 : may s3 := by
  unfold may s3
  refine ⟨.inl rfl, rfl, ?_, ?_, ?_, ?_⟩ <;> decide
theorem E6_eq {l : List (List UInt8)} {d : Int × KDk13} (hd : d.2.2.1.length ≤ 1048576) : E6 (l, d, ()) = some true := by
  obtain ⟨w, hw, h0⟩ := wh6 (l := l) hd 20 0 [] (by omega) (by show 0 ≤ 3; omega)
  have h2 := wh62 hw w.length 0 (by omega)
  have w0 : W6_0 (L6 l d [] 0) = .inl ((), w, (s3, ((w, ()), ())), ()) := whV_of h0
  have k0 : Q6_0 (L6 l d [] 0) = true := whK_of h0
  have w2 : W6_2 (M6 w 0) = .inl ((), w, (s3, (([], ()), ())), ()) := whV_of h2
  have k2 : Q6_2 (M6 w 0) = true := whK_of h2
  have a7 : F7 (s3, ()) = (0, ()) ∧ H7 (s3, ()) = ob s3 [] ∧ G7 (s3, ()) = true := by
    have e := E7_eq may3
    refine ⟨?_, ?_, by show (E7 (s3, ())).isSome = true; rw [e]; rfl⟩
    · show ((E7 (s3, ())).getD _).1 = _; rw [e]; rfl
    · show ((E7 (s3, ())).getD _).2 = _; rw [e]; rfl
  have a16 : F16 () = true ∧ G16 () = true := ⟨rfl, rfl⟩
  show S6 F7 H7 G7 F9 H9 G9 F11 H11 G11 F15 G15 F16 G16 W6_0 Q6_0 W6_2 Q6_2 l d = _
  unfold S6
  have a7' : F7 ((22, (0, (1, (3, ())))), ()) = (0, ()) ∧ H7 ((22, (0, (1, (3, ())))), ()) = ob s3 [] ∧ G7 ((22, (0, (1, (3, ())))), ()) = true := a7
  have w0' : W6_0 (l, (), (), [], 0, d, (s3, (([], ()), ())), ()) = .inl ((), w, (s3, ((w, ()), ())), ()) := w0
  have k0' : Q6_0 (l, (), (), [], 0, d, (s3, (([], ()), ())), ()) = true := k0
  have w2' : W6_2 ((), w, 0, (s3, ((w, ()), ())), ()) = .inl ((), w, (s3, (([], ()), ())), ()) := w2
  have k2' : Q6_2 ((), w, 0, (s3, ((w, ()), ())), ()) = true := k2
  have p0 : sec [] ([] : List (List UInt8)) 0 ([] : List (List UInt8)).length = [] := rfl
  simp only [a7', a16, put, le0, p0, w0', k0', w2', k2', F15_e, isL, getL, decide_true]
  rw [decide_eq_true (show ((w.length : Nat) : Int) ≤ 3 by omega)]
  rfl
/-! ## The law -/
theorem queueKeeps_pure (x0 : List (List UInt8)) (w0 : WFv (.vsl .str) x0) (s0 : SZ 1048576 (.vsl .str) x0) (x1 : Int × KDk13) (w1 : WFv KTk4 x1) (s1 : SZ 1048576 KTk4 x1) :
    PureOK Try.prog 6 [⟨.vsl .str, x0⟩, ⟨KTk4, x1⟩] ⟨.bool, true⟩ := by
  have hd : x1.2.2.1.length ≤ 1048576 := s1.2.2.1
  have h : F6 (x0, x1, ()) = true ∧ G6 (x0, x1, ()) = true := ofE (E6_eq hd)
  have := p6 (x0, x1, ()) h.2
  rw [h.1] at this
  exact this
end Go.Proofs
