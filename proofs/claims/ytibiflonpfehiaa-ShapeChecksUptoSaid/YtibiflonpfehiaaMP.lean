import Derived.Test.YtibiflonpfehiaaMO
namespace Go.Proofs
open Go.GX
set_option linter.unusedVariables false
set_option linter.unusedSimpArgs false
theorem iandm {m : Nat} (hm : m < 4294967296) (a : Int) : 0 ≤ iand .i64 a (m : Int) ∧ iand .i64 a (m : Int) ≤ (m : Int) := by
  unfold iand
  have h : (BitVec.ofInt (IntKind.bits .i64) a &&& BitVec.ofInt (IntKind.bits .i64) (m : Int)).toNat ≤ m := by
    rw [BitVec.toNat_and]
    refine Nat.le_trans Nat.and_le_right ?_
    rw [show (m : Int) = ((m : Nat) : Int) from rfl, BitVec.ofInt_natCast, BitVec.toNat_ofNat]
    exact Nat.mod_le _ _
  rw [wi64 (by omega)]
  omega
theorem G51_t (i : In) : G51 (i, ()) = true := by
  show (S51 F52 G52 i).isSome = true
  unfold S51
  have h := iandm (m := 3) (by omega) (ishr .i64 (Int.tmod (IntKind.wrap .i64 ((Int.tmod i.1 256) + 256)) 256) 3)
  rw [show ((3 : Nat) : Int) = 3 from rfl] at h
  generalize iand .i64 (ishr .i64 (Int.tmod (IntKind.wrap .i64 ((Int.tmod i.1 256) + 256)) 256) 3) 3 = y at *
  rw [show G52 (i, ()) = true from rfl, decide_eq_true (show 0 ≤ y from h.1), decide_eq_true (show y < 4 by omega), decide_eq_true (show 0 + Int.toNat y < 4 by omega)]
  repeat (first | exact rfl | apply bifS)
theorem F48_ex (i : In) : ∃ t, F48 (i, ()) = t ∧ G48 (i, ()) = true ∧ 1 ≤ t.length ∧ t.length ≤ 40 := by
  have : Tx (E48 (i, ())) 1 40 := by
    show Tx (S48 F42 G42 F51 G51 i) 1 40
    unfold S48
    obtain ⟨t, a1, a2, a3, a4⟩ := F42_ex (IntKind.wrap .i64 (8 * F51 (i, ())))
    rw [a1, a2, G51_t]
    exact ⟨t, rfl, a3, a4⟩
  obtain ⟨t, h1, h2, h3⟩ := this
  have g : F48 (i, ()) = t ∧ G48 (i, ()) = true := ofE h1
  exact ⟨t, g.1, g.2, h2, h3⟩
theorem F49_ex (r x : Int) : ∃ t, F49 (r, x, ()) = t ∧ G49 (r, x, ()) = true ∧ t.length ≤ 200 := by
  have : Tx (E49 (r, x, ())) 0 200 := by
    show Tx (S49 F38 G38 F40 G40 F42 G42 r x) 0 200
    unfold S49
    obtain ⟨d, b1, b2, b3, b4⟩ := F38_ex (s := [114]) (by simp) (by simp) r
    obtain ⟨t, a1, a2, a3, a4⟩ := F42_ex x
    obtain ⟨s, c1, c2, c3, c4⟩ := F40_ex (wu (IntKind.wrap .i64 (0 - x)))
    rw [a1, a2, b1, b2, c1, c2]
    cases (d == [])
    · cases decide (x < 0)
      · refine ⟨((([40] ++ d) ++ [32, 43, 32]) ++ t) ++ [41], (bif_f rfl).trans ((bif_f rfl).trans (bif_t ?_)), by simp, (by simp only [List.length_append, List.length_cons, List.length_nil]; omega)⟩
        simp only [tt_eq, Bool.and_eq_true, decide_eq_true_eq, true_and, and_true, List.length_append, List.length_cons, List.length_nil]; omega
      · refine ⟨((([40] ++ d) ++ [32, 45, 32]) ++ s) ++ [41], (bif_f rfl).trans ((bif_t rfl).trans (bif_t ?_)), by simp, (by simp only [List.length_append, List.length_cons, List.length_nil]; omega)⟩
        simp only [tt_eq, Bool.and_eq_true, decide_eq_true_eq, true_and, and_true, List.length_append, List.length_cons, List.length_nil]; omega
    · exact ⟨[], rfl, by simp, by simp⟩
  obtain ⟨t, h1, h2, h3⟩ := this
  have g : F49 (r, x, ()) = t ∧ G49 (r, x, ()) = true := ofE h1
  exact ⟨t, g.1, g.2, h3⟩
/-! ## Loads and stores -/
theorem J44g {x1 x2 : List UInt8} {i : In} (l1 : x1.length ≤ 100) (l2 : x2.length ≤ 10) : Tj (V44_1000013 ((), x1, x2, i, ())) (c44g i) := by
  unfold V44_1000013 R44_1000013 c44g
  dsimp only
  obtain ⟨t, a1, a2, a3, a4⟩ := F48_ex i
  obtain ⟨s, b1, b2, b3⟩ := F49_ex i.2.2.1 i.2.2.2.1
  rw [a1, a2, b1, b2]
  refine Tj.ite (fun _ => Tj.nil) (fun _ => Tj.g ?_ (by simp only [List.length_append, List.length_cons, List.length_nil]; omega) (by simp only [List.length_append, List.length_cons, List.length_nil]; omega))
  simp only [tt_eq, Bool.and_eq_true, decide_eq_true_eq, true_and, and_true, List.length_append, List.length_cons, List.length_nil]; omega
theorem J44s {i : In} : Tj (V44_1000019 ((), i, ())) true := by
  unfold V44_1000019 R44_1000019
  dsimp only
  obtain ⟨t, a1, a2, a3, a4⟩ := F48_ex i
  obtain ⟨s, b1, b2, b3⟩ := F49_ex i.2.1 i.2.2.2.1
  obtain ⟨d, c1, c2, c3, c4⟩ := F42_ex i.2.2.2.2.1
  rw [a1, a2, b1, b2, c1, c2]
  refine Tj.g ?_ (by simp only [List.length_append, List.length_cons, List.length_nil]; omega) (by simp only [List.length_append, List.length_cons, List.length_nil]; omega)
  simp only [tt_eq, Bool.and_eq_true, decide_eq_true_eq, true_and, and_true, List.length_append, List.length_cons, List.length_nil]; omega
theorem J44l {x1 : List UInt8} {i : In} (l1 : x1.length ≤ 300) : Tj (V44_1000045 ((), x1, i, ())) true := by
  unfold V44_1000045 R44_1000045
  dsimp only
  obtain ⟨t, a1, a2, a3, a4⟩ := F48_ex i
  obtain ⟨s, b1, b2, b3⟩ := F49_ex i.2.1 i.2.2.2.1
  rw [a1, a2, b1, b2]
  refine Tj.g ?_ (by simp only [List.length_append, List.length_cons, List.length_nil]; omega) (by simp only [List.length_append, List.length_cons, List.length_nil]; omega)
  simp only [tt_eq, Bool.and_eq_true, decide_eq_true_eq, true_and, and_true, List.length_append, List.length_cons, List.length_nil]; omega
theorem J44f {x1 : List UInt8} {i : In} (l1 : x1.length ≤ 200) : Tj (V44_1000043 ((), x1, i, ())) true := by
  have key : ∀ {p q : Bool} {a b c : Option (List UInt8 × Unit)}, Tj a true → Tj b true → Tj c true → Tj (bif p then (bif q then a else b) else c) true := by
    intro p q a b c h1 h2 h3
    cases p <;> cases q <;> assumption
  unfold V44_1000043 R44_1000043
  dsimp only
  have j1 := J44l (x1 := x1) (i := i) (by omega)
  have j2 := J44l (x1 := x1 ++ [32, 102, 101, 116, 99, 104]) (i := i) (by simp only [List.length_append, List.length_cons, List.length_nil]; omega)
  rw [show Q44_1000045 ((), x1, i, ()) = true from Tj.K j1, show Q44_1000045 ((), x1 ++ [32, 102, 101, 116, 99, 104], i, ()) = true from Tj.K j2, decide_eq_true (show x1.length + 6 ≤ 9223372036854775807 by omega)]
  exact key (Tj.jn j2 rfl) (Tj.jn j1 rfl) (Tj.jn j1 rfl)
theorem J44b {x1 : List UInt8} {i : In} (l1 : x1.length ≤ 100) : Tj (V44_1000024 ((), x1, i, ())) (c44b i) := by
  unfold V44_1000024 R44_1000024 c44b
  dsimp only
  have j : ∀ s : List UInt8, s.length ≤ 10 → Tj (V44_1000043 ((), s ++ x1, i, ())) true := fun s hs => J44f (by simp only [List.length_append, List.length_cons, List.length_nil]; omega)
  have k : ∀ s : List UInt8, s.length ≤ 10 → Q44_1000043 ((), s ++ x1, i, ()) = true := fun s hs => Tj.K (j s hs)
  rw [k [43, 61, 32] (by simp), k [124, 61, 32] (by simp), k [38, 61, 32] (by simp), k [94, 61, 32] (by simp), k [120, 99, 104, 103, 32] (by simp), k [99, 109, 112, 120, 99, 104, 103, 32] (by simp),
    decide_eq_true (show 3 + x1.length ≤ 9223372036854775807 by omega), decide_eq_true (show 5 + x1.length ≤ 9223372036854775807 by omega), decide_eq_true (show 8 + x1.length ≤ 9223372036854775807 by omega)]
  repeat' (first | exact Tj.nil | exact Tj.jn (j _ (by simp)) rfl | refine Tj.ite (fun _ => ?_) (fun _ => ?_))
theorem J44c {x1 : List UInt8} {i : In} (l1 : x1.length ≤ 100) : Tj (V44_1000022 ((), x1, i, ())) (c44c i) := by
  unfold V44_1000022 R44_1000022 c44c
  dsimp only
  have j := J44b (i := i) l1
  rw [show Q44_1000024 ((), x1, i, ()) = true from Tj.K j]
  repeat' (first | exact Tj.nil | exact Tj.jn j rfl | refine Tj.ite (fun _ => ?_) (fun _ => ?_))
theorem J44a {x1 x2 : List UInt8} {i : In} (l1 : x1.length ≤ 100) (l2 : x2.length ≤ 100) : Tj (V44_1000005 ((), x1, x2, i, ())) (c44a i) := by
  unfold V44_1000005 R44_1000005 c44a
  dsimp only
  obtain ⟨t, a1, a2, a3, a4⟩ := F48_ex i
  obtain ⟨s, b1, b2, b3⟩ := F49_ex i.2.1 i.2.2.2.1
  have j1 := J44g (x1 := x1) (x2 := [115]) (i := i) l1 (by simp)
  have j2 := J44g (x1 := x1) (x2 := [117]) (i := i) l1 (by simp)
  have j3 := J44s (i := i)
  have j4 := J44c (i := i) l2
  rw [a1, a2, b1, b2, show Q44_1000013 ((), x1, [115], i, ()) = true from Tj.K j1, show Q44_1000013 ((), x1, [117], i, ()) = true from Tj.K j2, show Q44_1000019 ((), i, ()) = true from Tj.K j3, show Q44_1000022 ((), x2, i, ()) = true from Tj.K j4]
  repeat' (first | exact Tj.nil | exact Tj.jn j1 rfl | exact Tj.jn j2 rfl | exact Tj.jn j3 rfl | exact Tj.jn j4 rfl | refine Tj.g ?_ (by simp only [List.length_append, List.length_cons, List.length_nil]; omega) (by simp only [List.length_append, List.length_cons, List.length_nil]; omega) | refine Tj.ite (fun _ => ?_) (fun _ => ?_))
  all_goals (simp only [tt_eq, Bool.and_eq_true, decide_eq_true_eq, true_and, and_true, List.length_append, List.length_cons, List.length_nil]; omega)
theorem J44 (i : In) : Ts (E44 (i, ())) (c44 i) := by
  show Ts (S44 F38 G38 F39 G39 F42 G42 F47 G47 F48 G48 F49 G49 W44_1000013 Q44_1000013 W44_1000019 Q44_1000019 W44_1000045 Q44_1000045 W44_1000043 Q44_1000043 W44_1000024 Q44_1000024 W44_1000022 Q44_1000022 W44_1000005 Q44_1000005 i) _
  unfold S44 c44
  obtain ⟨d, a1, a2, a3, a4⟩ := F38_ex (s := [114]) (by simp) (by simp) i.2.1
  obtain ⟨s, b1, b2, b3, b4⟩ := F38_ex (s := [114]) (by simp) (by simp) i.2.2.1
  have j := J44a (x1 := d) (x2 := s) (i := i) (by omega) (by omega)
  rw [a1, a2, b1, b2, a4, b4, show Q44_1000005 ((), d, s, i, ()) = true from Tj.K j]
  simp only [(F39_e _).1, (F39_e _).2, (F47_e _).1, (F47_e _).2]
  repeat' (first | exact Ts.g0 rfl | exact Tj.S j rfl | refine Ts.ite (fun _ => ?_) (fun _ => ?_))
/-! ## Jumps -/
theorem tests_ne {h : Nat} (hh : h < 14) : (([[], [61, 61], [62], [62, 61], [38], [33, 61], [115, 62], [115, 62, 61], [], [], [60], [60, 61], [115, 60], [115, 60, 61]] : List (List UInt8)).getD h []).length ≤ 4 := by
  have : ∀ k : Fin 14, (([[], [61, 61], [62], [62, 61], [38], [33, 61], [115, 62], [115, 62, 61], [], [], [60], [60, 61], [115, 60], [115, 60, 61]] : List (List UInt8)).getD k.val []).length ≤ 4 := by decide
  exact this ⟨h, hh⟩
theorem J45c {x3 : Bool} {x4 x5 : List UInt8} {h : Nat} {i : In} (hh : h < 14) (l4 : x4.length ≤ 100) (l5 : x5.length ≤ 100) : Tj (V45_1000025 ((), [[], [61, 61], [62], [62, 61], [38], [33, 61], [115, 62], [115, 62, 61], [], [], [60], [60, 61], [115, 60], [115, 60, 61]], (h : Int), x3, x4, x5, i, ())) true := by
  have key : ∀ {p : Bool} {a b : Option (List UInt8 × Unit)}, Tj a true → Tj b true → Tj (bif p then a else b) true := by
    intro p a b h1 h2
    cases p <;> assumption
  unfold V45_1000025 R45_1000025
  dsimp only
  obtain ⟨t, a1, a2, a3, a4⟩ := F42_ex i.2.2.2.2.1
  obtain ⟨s, b1, b2, b3, b4⟩ := F50_ex i.2.2.2.1
  have hn := tests_ne hh
  rw [a1, a2, b1, b2, show 0 + Int.toNat (h : Int) = h by omega]
  generalize ([[], [61, 61], [62], [62, 61], [38], [33, 61], [115, 62], [115, 62, 61], [], [], [60], [60, 61], [115, 60], [115, 60, 61]] : List (List UInt8)).getD h [] = N at *
  refine key (Tj.g ?_ (by simp only [List.length_append, List.length_cons, List.length_nil]; omega) (by simp only [List.length_append, List.length_cons, List.length_nil]; omega)) (Tj.g ?_ (by simp only [List.length_append, List.length_cons, List.length_nil]; omega) (by simp only [List.length_append, List.length_cons, List.length_nil]; omega))
  all_goals (simp only [tt_eq, Bool.and_eq_true, decide_eq_true_eq, true_and, and_true, List.length_append, List.length_cons, List.length_nil]; omega)
theorem J45b {x1 : List UInt8} {n : Nat} {i : In} (hn : n < 256) (hi : i.1 = (n : Int)) (l1 : 1 ≤ x1.length) (l2 : x1.length ≤ 10) : Tj (V45_1000007 ((), x1, i, ())) (c45b x1 i) := by
  unfold V45_1000007 R45_1000007 c45b
  dsimp only
  obtain ⟨t, a1, a2, a3, a4⟩ := F42_ex i.2.2.2.2.1
  obtain ⟨s, b1, b2, b3, b4⟩ := F50_ex i.2.2.2.1
  obtain ⟨d, c1, c2, c3, c4⟩ := F38_ex l1 l2 i.2.1
  obtain ⟨r, d1, d2, d3, d4⟩ := F38_ex l1 l2 i.2.2.1
  have e : ishr .i64 i.1 4 = ((n / 16 : Nat) : Int) := by rw [hi]; exact (op_bits ⟨n, hn⟩).2.2.2.2.2.1
  rw [a1, a2, b1, b2, c1, c2, d1, d2, c4, d4, e]
  have j : n / 16 < 14 → _ := fun hh => J45c (x3 := !decide (iand .i64 i.1 8 = 0)) (x4 := d) (x5 := r) (i := i) hh (by omega) (by omega)
  refine Tj.ite (fun _ => ?_) (fun _ => Tj.ite (fun _ => ?_) (fun _ => Tj.ite (fun _ => ?_) (fun _ => Tj.ite (fun _ => Tj.g0 ?_) (fun hgt => ?_))))
  · repeat' (first | exact Tj.nil | refine Tj.g ?_ (by simp only [List.length_append, List.length_cons, List.length_nil]; omega) (by simp only [List.length_append, List.length_cons, List.length_nil]; omega) | refine Tj.ite (fun _ => ?_) (fun _ => ?_))
    all_goals (simp only [tt_eq, Bool.and_eq_true, decide_eq_true_eq, true_and, and_true, List.length_append, List.length_cons, List.length_nil]; omega)
  · repeat' (first | exact Tj.nil | refine Tj.g ?_ (by simp only [List.length_append, List.length_cons, List.length_nil]; omega) (by simp only [List.length_append, List.length_cons, List.length_nil]; omega) | refine Tj.ite (fun _ => ?_) (fun _ => ?_))
    all_goals (simp only [tt_eq, Bool.and_eq_true, decide_eq_true_eq, true_and, and_true, List.length_append, List.length_cons, List.length_nil]; omega)
  · repeat' (first | exact Tj.nil | exact Tj.s (by simp) (by simp) | refine Tj.ite (fun _ => ?_) (fun _ => ?_))
  · first | rfl | (simp only [tt_eq, Bool.and_eq_true, decide_eq_true_eq, true_and, and_true, List.length_append, List.length_cons, List.length_nil]; omega)
  · have hgt := of_decide_eq_false hgt
    have hlt : n / 16 < 14 := by omega
    have jj := j hlt
    rw [show Q45_1000025 _ = true from Tj.K jj, show Int.toNat ((n / 16 : Nat) : Int) = n / 16 by omega, decide_eq_true (show 0 + n / 16 < 14 by omega), decide_eq_true (show (0 : Int) ≤ ((n / 16 : Nat) : Int) by omega), decide_eq_true (show ((n / 16 : Nat) : Int) < 14 by omega)]
    repeat' (first | exact Tj.g0 rfl | exact Tj.jn jj rfl | refine Tj.ite (fun _ => ?_) (fun _ => ?_))
theorem J45a {x1 : List UInt8} {n : Nat} {i : In} (hn : n < 256) (hi : i.1 = (n : Int)) (l1 : 1 ≤ x1.length) (l2 : x1.length ≤ 10) : Tj (V45_1000005 ((), x1, i, ())) (c45a x1 i) := by
  unfold V45_1000005 R45_1000005 c45a
  dsimp only
  have j := J45b hn hi l1 l2
  rw [show Q45_1000007 ((), x1, i, ()) = true from Tj.K j]
  simp only [(F39_e _).1, (F39_e _).2, (F47_e _).1, (F47_e _).2]
  repeat' (first | exact Tj.g0 rfl | exact Tj.jn j rfl | refine Tj.ite (fun _ => ?_) (fun _ => ?_))
theorem J45 {n : Nat} {i : In} (hn : n < 256) (hi : i.1 = (n : Int)) : Ts (E45 (i, ())) (c45 i) := by
  show Ts (S45 F38 G38 F39 G39 F42 G42 F47 G47 F50 G50 W45_1000025 Q45_1000025 W45_1000007 Q45_1000007 W45_1000005 Q45_1000005 i) _
  unfold S45 c45
  have j1 := J45a (x1 := [114]) hn hi (by simp) (by simp)
  have j2 := J45a (x1 := [119]) hn hi (by simp) (by simp)
  rw [show Q45_1000005 ((), [114], i, ()) = true from Tj.K j1, show Q45_1000005 ((), [119], i, ()) = true from Tj.K j2]
  exact Ts.ite (fun _ => Tj.S j2 rfl) (fun _ => Tj.S j1 rfl)
/-! ## A line -/
theorem J36 (i : In) : Ts (E36 (i, ())) (c36 i) := by
  show Ts (S36 F43 G43 F44 G44 F45 G45 i) _
  unfold S36 c36
  refine Ts.ite (fun _ => Ts.nil) (fun h0 => Ts.ite (fun _ => Ts.nil) (fun h1 => ?_))
  have h0 := of_decide_eq_false h0
  have h1 := of_decide_eq_false h1
  have hn : i.1.toNat < 256 := by omega
  have hi : i.1 = (i.1.toNat : Int) := by omega
  obtain ⟨t3, a1, a2, a3, a4⟩ := Ts.F (J43 hn hi)
  obtain ⟨t4, b1, b2, b3, b4⟩ := Ts.F (J44 i)
  obtain ⟨t5, c1, c2, c3, c4⟩ := Ts.F (J45 hn hi)
  have a1 : F43 (i, ()) = t3 := a1
  have a2 : G43 (i, ()) = true := a2
  have b1 : F44 (i, ()) = t4 := b1
  have b2 : G44 (i, ()) = true := b2
  have c1 : F45 (i, ()) = t5 := c1
  have c2 : G45 (i, ()) = true := c2
  rw [a1, a2, b1, b2, c1, c2]
  have k3 : Ts (bif tt 1 true then some t3 else none) (c43 i) := ⟨t3, rfl, a3, a4⟩
  have k4 : Ts (bif tt 1 true then some t4 else none) (c44 i) := ⟨t4, rfl, b3, b4⟩
  have k5 : Ts (bif tt 1 true then some t5 else none) (c45 i) := ⟨t5, rfl, c3, c4⟩
  repeat' (first | exact Ts.nil | exact k3 | exact k4 | exact k5 | refine Ts.ite (fun _ => ?_) (fun _ => ?_))
end Go.Proofs
