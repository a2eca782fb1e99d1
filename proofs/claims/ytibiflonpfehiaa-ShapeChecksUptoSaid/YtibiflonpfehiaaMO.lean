import Derived.Test.YtibiflonpfehiaaMN
namespace Go.Proofs
open Go.GX
set_option linter.unusedVariables false
set_option linter.unusedSimpArgs false
/-! ## Is there a line? -/
def Tj (o : Option (List UInt8 × Unit)) (c : Bool) : Prop := ∃ t, o = some (t, ()) ∧ t.length ≤ 5000 ∧ (t == []) = !c
def Ts (o : Option (List UInt8)) (c : Bool) : Prop := ∃ t, o = some t ∧ t.length ≤ 5000 ∧ (t == []) = !c
theorem Tj.ite {p : Bool} {a b : Option (List UInt8 × Unit)} {c d : Bool} (h : p = true → Tj a c) (k : p = false → Tj b d) : Tj (bif p then a else b) (bif p then c else d) := by
  cases p
  · exact k rfl
  · exact h rfl
theorem Tj.nil : Tj (some ([], ())) false := ⟨[], rfl, by simp, rfl⟩
theorem Tj.g {g : Bool} {t : List UInt8} (hg : g = true) (h1 : 1 ≤ t.length) (h2 : t.length ≤ 5000) : Tj (bif g then some (t, ()) else none) true := by
  refine ⟨t, by rw [hg]; rfl, h2, ?_⟩
  cases t with
  | nil => simp at h1
  | cons a t => rfl
theorem Tj.s {t : List UInt8} (h1 : 1 ≤ t.length) (h2 : t.length ≤ 5000) : Tj (some (t, ())) true := Tj.g (g := true) rfl h1 h2
theorem Tj.g0 {g : Bool} (hg : g = true) : Tj (bif g then some ([], ()) else none) false := by rw [hg]; exact Tj.nil
theorem Tj.jn {hd : List It} {f : XD hd → Option (List UInt8 × Unit)} {x : XD hd} {c g : Bool} {s : Nat} (h : Tj (f x) c) (hg : g = true) :
    Tj (bif g then some ((jnV (ys := [(.ret, [.sl s .str])]) f x).1, ()) else none) c := by
  obtain ⟨t, h1, h2, h3⟩ := h
  refine ⟨t, ?_, h2, h3⟩
  rw [hg]
  unfold jnV
  rw [h1]; rfl
theorem Tj.K {hd : List It} {f : XD hd → Option (List UInt8 × Unit)} {x : XD hd} {c : Bool} {s : Nat} (h : Tj (f x) c) : jnK (ys := [(.ret, [.sl s .str])]) f x = true := by
  obtain ⟨t, h1, _⟩ := h
  unfold jnK
  rw [h1]; rfl
theorem Tj.S {hd : List It} {f : XD hd → Option (List UInt8 × Unit)} {x : XD hd} {c g : Bool} {s : Nat} (h : Tj (f x) c) (hg : g = true) :
    Ts (bif g then some (jnV (ys := [(.ret, [.sl s .str])]) f x).1 else none) c := by
  obtain ⟨t, h1, h2, h3⟩ := h
  refine ⟨t, ?_, h2, h3⟩
  rw [hg]
  unfold jnV
  rw [h1]; rfl
theorem Ts.ite {p : Bool} {a b : Option (List UInt8)} {c d : Bool} (h : p = true → Ts a c) (k : p = false → Ts b d) : Ts (bif p then a else b) (bif p then c else d) := by
  cases p
  · exact k rfl
  · exact h rfl
theorem Ts.nil : Ts (some []) false := ⟨[], rfl, by simp, rfl⟩
theorem Ts.g0 {g : Bool} (hg : g = true) : Ts (bif g then some [] else none) false := by rw [hg]; exact Ts.nil
theorem Ts.g {g : Bool} {t : List UInt8} (hg : g = true) (h1 : 1 ≤ t.length) (h2 : t.length ≤ 5000) : Ts (bif g then some t else none) true := by
  refine ⟨t, by rw [hg]; rfl, h2, ?_⟩
  cases t with
  | nil => simp at h1
  | cons a t => rfl
theorem names_len {h : Nat} (hh : h < 13) : ((([[43, 61], [45, 61], [42, 61], [47, 61], [124, 61], [38, 61], [60, 60, 61], [62, 62, 61], [], [37, 61], [94, 61], [61], [115, 62, 62, 61]] : List (List UInt8)).getD h [])).length ≤ 4 := by
  have : ∀ k : Fin 13, ((([[43, 61], [45, 61], [42, 61], [47, 61], [124, 61], [38, 61], [60, 60, 61], [62, 62, 61], [], [37, 61], [94, 61], [61], [115, 62, 62, 61]] : List (List UInt8)).getD k.val [])).length ≤ 4 := by decide
  exact this ⟨h, hh⟩
theorem hi4 {h : Nat} (hh : h < 16) : ishr .i64 ((h * 16 : Nat) : Int) 4 = (h : Int) := by
  have := (op_bits ⟨h * 16, by omega⟩).2.2.2.2.2.2.2
  simpa [show h * 16 / 16 = h by omega] using this

noncomputable def c43d (x1 : List UInt8) (x4 : Int) (x5 : Bool) (x7 : In) : Bool :=
  (bif (!(decide (x7.2.2.2.1 = 0))) then
    (bif (decide (x7.2.2.2.1 = 1)) then
      (bif (decide (x4 = 48)) then
        (bif (decide ((ishr .i64 x4 4) > 12)) then
          false
        else
          true)
      else
        (bif (decide (x4 = 144)) then
          (bif (decide ((ishr .i64 x4 4) > 12)) then
            false
          else
            true)
        else
          (bif (decide (x4 = 176)) then
            (bif x5 then
              (bif (decide (x7.2.2.2.1 = 8)) then
                (bif (decide ((ishr .i64 x4 4) > 12)) then
                  false
                else
                  true)
              else
                (bif (decide (x7.2.2.2.1 = 16)) then
                  (bif (decide ((ishr .i64 x4 4) > 12)) then
                    false
                  else
                    true)
                else
                  (bif (decide (x7.2.2.2.1 = 32)) then
                    (bif (x1 == ([114] : List UInt8)) then
                      (bif (decide ((ishr .i64 x4 4) > 12)) then
                        false
                      else
                        true)
                    else
                      false)
                  else
                    false)))
            else
              false)
          else
            false)))
    else
      (bif (decide (x4 = 176)) then
        (bif x5 then
          (bif (decide (x7.2.2.2.1 = 8)) then
            (bif (decide ((ishr .i64 x4 4) > 12)) then
              false
            else
              true)
          else
            (bif (decide (x7.2.2.2.1 = 16)) then
              (bif (decide ((ishr .i64 x4 4) > 12)) then
                false
              else
                true)
            else
              (bif (decide (x7.2.2.2.1 = 32)) then
                (bif (x1 == ([114] : List UInt8)) then
                  (bif (decide ((ishr .i64 x4 4) > 12)) then
                    false
                  else
                    true)
                else
                  false)
              else
                false)))
        else
          false)
      else
        false))
  else
    (bif (decide ((ishr .i64 x4 4) > 12)) then
      false
    else
      true))
noncomputable def c43c (x1 : List UInt8) (x4 : Int) (x5 : Bool) (x6 : In) : Bool :=
  (bif (!x5) then
    (c43d x1 x4 x5 x6)
  else
    (c43d x1 x4 x5 x6))
noncomputable def c46b (x1 : List UInt8) (x2 : In) : Bool :=
  (bif (x1 == ([] : List UInt8)) then
    false
  else
    (bif (!(decide (x2.2.2.1 = 0))) then
      false
    else
      (bif (!(decide (x2.2.2.2.1 = 0))) then
        false
      else
        (bif (!(decide (x2.2.2.2.2.1 = 16))) then
          (bif (!(decide (x2.2.2.2.2.1 = 32))) then
            (bif (!(decide (x2.2.2.2.2.1 = 64))) then
              false
            else
              true)
          else
            true)
        else
          true))))
noncomputable def c46 (a0 : In) : Bool :=
  (bif (decide (a0.1 = 212)) then
    (c46b [108, 101] a0)
  else
    (bif (decide (a0.1 = 220)) then
      (c46b [98, 101] a0)
    else
      (bif (decide (a0.1 = 215)) then
        (c46b [98, 115, 119, 97, 112] a0)
      else
        (c46b [] a0))))
noncomputable def c43b (x1 : List UInt8) (x4 : Int) (x5 : Bool) (x6 : In) : Bool :=
  (bif (decide (x4 = 208)) then
    (c46 x6)
  else
    (bif (decide (x4 = 128)) then
      (bif x5 then
        false
      else
        (bif (!(decide (x6.2.2.1 = 0))) then
          false
        else
          (bif (!(decide (x6.2.2.2.1 = 0))) then
            false
          else
            (bif (!(decide (x6.2.2.2.2.1 = 0))) then
              false
            else
              true))))
    else
      (bif x5 then
        (bif (!(decide (x6.2.2.2.2.1 = 0))) then
          false
        else
          (bif (!x5) then
            (bif (!(decide (x6.2.2.1 = 0))) then
              false
            else
              (bif (!(is32 x6.2.2.2.2.1)) then
                false
              else
                (c43c x1 x4 x5 x6)))
          else
            (bif (!(is32 x6.2.2.2.2.1)) then
              false
            else
              (c43c x1 x4 x5 x6))))
      else
        (bif (!x5) then
          (bif (!(decide (x6.2.2.1 = 0))) then
            false
          else
            (bif (!(is32 x6.2.2.2.2.1)) then
              false
            else
              (c43c x1 x4 x5 x6)))
        else
          (bif (!(is32 x6.2.2.2.2.1)) then
            false
          else
            (c43c x1 x4 x5 x6))))))
noncomputable def c43a (x1 : List UInt8) (x2 : In) : Bool :=
  (bif (!(isReg x2.2.1)) then
    false
  else
    (bif (!(isReg x2.2.2.1)) then
      false
    else
      (c43b x1 (iand .i64 x2.1 240) (!(decide ((iand .i64 x2.1 8) = 0))) x2)))
noncomputable def c43 (a0 : In) : Bool :=
  (bif (decide ((iand .i64 a0.1 7) = 7)) then
    (c43a [114] a0)
  else
    (c43a [119] a0))
theorem J43d {x1 x2 x3 x6 : List UInt8} {x5 : Bool} {h : Nat} {i : In} (hh : h < 16) (h2 : 1 ≤ x2.length) (l2 : x2.length ≤ 100) (l3 : x3.length ≤ 100) (l6 : x6.length ≤ 200) :
    Tj (V43_1000020 ((), x1, x2, x3, ((h * 16 : Nat) : Int), x5, x6, i, ())) (c43d x1 ((h * 16 : Nat) : Int) x5 i) := by
  unfold V43_1000020 R43_1000020 c43d
  dsimp only
  have e1 := hi4 hh
  obtain ⟨t, a1, a2, a3, a4⟩ := F42_ex i.2.2.2.1
  have hn : h < 13 → _ := names_len (h := h)
  rw [e1, a1, a2, show 0 + Int.toNat (h : Int) = h by omega]
  generalize hN : (([[43, 61], [45, 61], [42, 61], [47, 61], [124, 61], [38, 61], [60, 60, 61], [62, 62, 61], [], [37, 61], [94, 61], [61], [115, 62, 62, 61]] : List (List UInt8)).getD h []) = N at *
  repeat' (first | exact Tj.nil | refine Tj.g ?_ (by simp only [List.length_append, List.length_cons, List.length_nil]; omega) ?_ | refine Tj.g0 ?_ | refine Tj.ite (fun _ => ?_) (fun _ => ?_))
  all_goals
    rename_i hq
    try have hq := of_decide_eq_false hq
    try have hn := hn (by omega)
    simp only [tt_eq, Bool.and_eq_true, decide_eq_true_eq, true_and, and_true, List.length_append, List.length_cons, List.length_nil]
    omega
theorem J43c {x1 x2 x3 : List UInt8} {x5 : Bool} {h : Nat} {i : In} (hh : h < 16) (h2 : 1 ≤ x2.length) (l2 : x2.length ≤ 100) (l3 : x3.length ≤ 100) :
    Tj (V43_1000017 ((), x1, x2, x3, ((h * 16 : Nat) : Int), x5, i, ())) (c43c x1 ((h * 16 : Nat) : Int) x5 i) := by
  unfold V43_1000017 R43_1000017 c43c
  dsimp only
  obtain ⟨t, a1, a2, a3, a4⟩ := F42_ex i.2.2.2.2.1
  rw [a1, a2]
  refine Tj.ite (fun _ => ?_) (fun _ => ?_)
  · have j := J43d (x1 := x1) (x3 := x3) (x5 := x5) (x6 := t) (i := i) hh h2 l2 l3 (by omega)
    exact Tj.jn j (by rw [show Q43_1000020 _ = true from Tj.K j]; rfl)
  · have j := J43d (x1 := x1) (x3 := x3) (x5 := x5) (x6 := x3) (i := i) hh h2 l2 l3 (by omega)
    exact Tj.jn j (by rw [show Q43_1000020 _ = true from Tj.K j]; rfl)

noncomputable def c44g (x3 : In) : Bool :=
  (bif (!(decide (x3.2.2.2.2.1 = 0))) then
    false
  else
    true)
noncomputable def c44b (x2 : In) : Bool :=
  (bif (decide (x2.2.2.2.2.1 = 0)) then
    true
  else
    (bif (decide (x2.2.2.2.2.1 = 1)) then
      true
    else
      (bif (decide (x2.2.2.2.2.1 = 64)) then
        true
      else
        (bif (decide (x2.2.2.2.2.1 = 65)) then
          true
        else
          (bif (decide (x2.2.2.2.2.1 = 80)) then
            true
          else
            (bif (decide (x2.2.2.2.2.1 = 81)) then
              true
            else
              (bif (decide (x2.2.2.2.2.1 = 160)) then
                true
              else
                (bif (decide (x2.2.2.2.2.1 = 161)) then
                  true
                else
                  (bif (decide (x2.2.2.2.2.1 = 225)) then
                    true
                  else
                    (bif (decide (x2.2.2.2.2.1 = 241)) then
                      true
                    else
                      false))))))))))
noncomputable def c44c (x2 : In) : Bool :=
  (bif (!(decide (x2.1 = 195))) then
    (bif (!(decide (x2.1 = 219))) then
      false
    else
      (c44b x2))
  else
    (c44b x2))
noncomputable def c44a (x3 : In) : Bool :=
  (bif (decide ((iand .i64 x3.1 7) = 1)) then
    (bif (decide ((ishr .i64 x3.1 5) = 4)) then
      (bif (!(decide (x3.1 = 153))) then
        (c44g x3)
      else
        (bif (!(decide ((ishr .i64 x3.1 5) = 3))) then
          false
        else
          (c44g x3)))
    else
      (bif (!(decide ((ishr .i64 x3.1 5) = 3))) then
        false
      else
        (c44g x3)))
  else
    (bif (decide ((iand .i64 x3.1 7) = 2)) then
      (bif (!(decide ((ishr .i64 x3.1 5) = 3))) then
        false
      else
        (bif (!(decide (x3.2.2.1 = 0))) then
          false
        else
          true))
    else
      (bif (decide ((ishr .i64 x3.1 5) = 3)) then
        (bif (decide (x3.2.2.2.2.1 = 0)) then
          true
        else
          (c44c x3))
      else
        (c44c x3))))
noncomputable def c44 (a0 : In) : Bool :=
  (bif (!(isReg a0.2.1)) then
    false
  else
    (bif (!(isReg a0.2.2.1)) then
      false
    else
      (bif (!(is16 a0.2.2.2.1)) then
        false
      else
        (bif (!(is32 a0.2.2.2.2.1)) then
          false
        else
          (c44a a0)))))
noncomputable def c45b (x1 : List UInt8) (x2 : In) : Bool :=
  (bif (decide (x2.1 = 5)) then
    (bif (!(decide (x2.2.1 = 0))) then
      false
    else
      (bif (!(decide (x2.2.2.1 = 0))) then
        false
      else
        (bif (!(decide (x2.2.2.2.2.1 = 0))) then
          false
        else
          true)))
  else
    (bif (decide (x2.1 = 133)) then
      (bif (!(decide (x2.2.1 = 0))) then
        false
      else
        (bif (!(decide (x2.2.2.1 = 0))) then
          false
        else
          (bif (!(decide (x2.2.2.2.1 = 0))) then
            false
          else
            true)))
    else
      (bif (decide (x2.1 = 149)) then
        (bif (!(decide (x2.2.1 = 0))) then
          false
        else
          (bif (!(decide (x2.2.2.1 = 0))) then
            false
          else
            (bif (!(decide (x2.2.2.2.1 = 0))) then
              false
            else
              (bif (!(decide (x2.2.2.2.2.1 = 0))) then
                false
              else
                true))))
      else
        (bif (decide ((ishr .i64 x2.1 4) > 13)) then
          false
        else
          (bif ((([[], [61, 61], [62], [62, 61], [38], [33, 61], [115, 62], [115, 62, 61], [], [], [60], [60, 61], [115, 60], [115, 60, 61]] : List (List UInt8)).getD (0 + (Int.toNat (ishr .i64 x2.1 4))) []) == ([] : List UInt8)) then
            false
          else
            (bif (!(isReg x2.2.1)) then
              false
            else
              (bif (!(isReg x2.2.2.1)) then
                false
              else
                (bif (!(decide ((iand .i64 x2.1 8) = 0))) then
                  (bif (!(decide (x2.2.2.2.2.1 = 0))) then
                    false
                  else
                    (bif (!(!(decide ((iand .i64 x2.1 8) = 0)))) then
                      (bif (!(decide (x2.2.2.1 = 0))) then
                        false
                      else
                        true)
                    else
                      true))
                else
                  (bif (!(!(decide ((iand .i64 x2.1 8) = 0)))) then
                    (bif (!(decide (x2.2.2.1 = 0))) then
                      false
                    else
                      true)
                  else
                    true)))))))))
noncomputable def c45a (x1 : List UInt8) (x2 : In) : Bool :=
  (bif (!(is16 x2.2.2.2.1)) then
    false
  else
    (bif (!(is32 x2.2.2.2.2.1)) then
      false
    else
      (c45b x1 x2)))
noncomputable def c45 (a0 : In) : Bool :=
  (bif (decide ((iand .i64 a0.1 7) = 6)) then
    (c45a [119] a0)
  else
    (c45a [114] a0))
noncomputable def c36 (a0 : In) : Bool :=
  (bif (decide (a0.1 < 0)) then
    false
  else
    (bif (decide (a0.1 > 255)) then
      false
    else
      (bif (decide ((iand .i64 a0.1 7) = 4)) then
        (c43 a0)
      else
        (bif (decide ((iand .i64 a0.1 7) = 7)) then
          (c43 a0)
        else
          (bif (decide ((iand .i64 a0.1 7) = 1)) then
            (c44 a0)
          else
            (bif (decide ((iand .i64 a0.1 7) = 2)) then
              (c44 a0)
            else
              (bif (decide ((iand .i64 a0.1 7) = 3)) then
                (c44 a0)
              else
                (bif (decide ((iand .i64 a0.1 7) = 5)) then
                  (c45 a0)
                else
                  (bif (decide ((iand .i64 a0.1 7) = 6)) then
                    (c45 a0)
                  else
                    false)))))))))
theorem ne_len {t : List UInt8} (h : (t == []) = false) : 1 ≤ t.length := by
  cases t with
  | nil => cases h
  | cons a t => simp
theorem J46c {x1 : List UInt8} {i : In} (l1 : x1.length ≤ 100) : Tj (V46_1000012 ((), x1, i, ())) true := by
  unfold V46_1000012 R46_1000012
  dsimp only
  obtain ⟨t, a1, a2, a3, a4⟩ := F42_ex i.2.2.2.2.1
  obtain ⟨d, b1, b2, b3, b4⟩ := F38_ex (s := [114]) (by simp) (by simp) i.2.1
  rw [a1, a2, b1, b2]
  refine Tj.g ?_ (by simp only [List.length_append, List.length_cons, List.length_nil]; omega) (by simp only [List.length_append, List.length_cons, List.length_nil]; omega)
  simp only [tt_eq, Bool.and_eq_true, decide_eq_true_eq, true_and, and_true, List.length_append, List.length_cons, List.length_nil]; omega
theorem J46b {x1 : List UInt8} {i : In} (l1 : x1.length ≤ 100) : Tj (V46_1000010 ((), x1, i, ())) (c46b x1 i) := by
  unfold V46_1000010 R46_1000010 c46b
  dsimp only
  have j := J46c (i := i) l1
  have k : Q46_1000012 ((), x1, i, ()) = true := Tj.K j
  rw [k]
  repeat' (first | exact Tj.nil | exact Tj.jn j rfl | refine Tj.ite (fun _ => ?_) (fun _ => ?_))
theorem J46 (i : In) : Ts (E46 (i, ())) (c46 i) := by
  show Ts (S46 F38 G38 F42 G42 W46_1000012 Q46_1000012 W46_1000010 Q46_1000010 i) _
  unfold S46 c46
  have j1 := J46b (x1 := [108, 101]) (i := i) (by simp)
  have j2 := J46b (x1 := [98, 101]) (i := i) (by simp)
  have j3 := J46b (x1 := [98, 115, 119, 97, 112]) (i := i) (by simp)
  have j4 := J46b (x1 := []) (i := i) (by simp)
  rw [show Q46_1000010 ((), [108, 101], i, ()) = true from Tj.K j1, show Q46_1000010 ((), [98, 101], i, ()) = true from Tj.K j2, show Q46_1000010 ((), [98, 115, 119, 97, 112], i, ()) = true from Tj.K j3, show Q46_1000010 ((), [], i, ()) = true from Tj.K j4]
  exact Ts.ite (fun _ => Tj.S j1 rfl) (fun _ => Ts.ite (fun _ => Tj.S j2 rfl) (fun _ => Ts.ite (fun _ => Tj.S j3 rfl) (fun _ => Tj.S j4 rfl)))
theorem Ts.F {α : Type} {E : α → Option (List UInt8)} {x : α} {c : Bool} (h : Ts (E x) c) : ∃ t, (E x).getD [] = t ∧ (E x).isSome = true ∧ t.length ≤ 5000 ∧ (t == []) = !c := by
  obtain ⟨t, h1, h2, h3⟩ := h
  exact ⟨t, by rw [h1]; rfl, by rw [h1]; rfl, h2, h3⟩
theorem J43b {x1 x2 x3 : List UInt8} {x5 : Bool} {h : Nat} {i : In} (hh : h < 16) (h2 : 1 ≤ x2.length) (l2 : x2.length ≤ 100) (l3 : x3.length ≤ 100) :
    Tj (V43_1000009 ((), x1, x2, x3, ((h * 16 : Nat) : Int), x5, i, ())) (c43b x1 ((h * 16 : Nat) : Int) x5 i) := by
  unfold V43_1000009 R43_1000009 c43b
  dsimp only
  have j := J43c (x1 := x1) (x5 := x5) (i := i) hh h2 l2 l3
  have k : Q43_1000017 ((), x1, x2, x3, ((h * 16 : Nat) : Int), x5, i, ()) = true := Tj.K j
  obtain ⟨s, b1, b2, b3, b4⟩ := Ts.F (J46 i)
  have b1 : F46 (i, ()) = s := b1
  have b2 : G46 (i, ()) = true := b2
  rw [b1, b2, k]
  simp only [(F39_e _).1, (F39_e _).2]
  have js : ∀ {g : Bool}, g = true → Tj (bif g then some (s, ()) else none) (c46 i) := fun hg => ⟨s, by rw [hg]; rfl, b3, b4⟩
  repeat' (first | exact Tj.nil | exact js rfl | exact Tj.jn j rfl | exact Tj.g0 rfl | refine Tj.g ?_ (by simp only [List.length_append, List.length_cons, List.length_nil]; omega) (by simp only [List.length_append, List.length_cons, List.length_nil]; omega) | refine Tj.ite (fun _ => ?_) (fun _ => ?_))
  all_goals (simp only [tt_eq, Bool.and_eq_true, decide_eq_true_eq, true_and, and_true, List.length_append, List.length_cons, List.length_nil]; omega)
theorem J43a {x1 : List UInt8} {n : Nat} {i : In} (hn : n < 256) (hi : i.1 = (n : Int)) (l1 : 1 ≤ x1.length) (l2 : x1.length ≤ 10) : Tj (V43_1000005 ((), x1, i, ())) (c43a x1 i) := by
  unfold V43_1000005 R43_1000005 c43a
  dsimp only
  obtain ⟨d, a1, a2, a3, a4⟩ := F38_ex l1 l2 i.2.1
  obtain ⟨s, b1, b2, b3, b4⟩ := F38_ex l1 l2 i.2.2.1
  rw [a1, a2, b1, b2, a4, b4]
  have e : iand .i64 i.1 240 = ((n / 16 * 16 : Nat) : Int) := by rw [hi]; exact (op_bits ⟨n, hn⟩).2.2.1
  rw [e]
  refine Tj.ite (fun _ => Tj.g0 rfl) (fun h1 => Tj.ite (fun _ => Tj.g0 rfl) (fun _ => ?_))
  have j := J43b (x1 := x1) (x2 := d) (x3 := s) (x5 := !decide (iand .i64 i.1 8 = 0)) (i := i) (show n / 16 < 16 by omega) (ne_len (a4.trans h1)) (by omega) (by omega)
  exact Tj.jn j (by rw [show Q43_1000009 _ = true from Tj.K j]; rfl)
theorem J43 {n : Nat} {i : In} (hn : n < 256) (hi : i.1 = (n : Int)) : Ts (E43 (i, ())) (c43 i) := by
  show Ts (S43 F38 G38 F39 G39 F42 G42 F46 G46 W43_1000020 Q43_1000020 W43_1000017 Q43_1000017 W43_1000009 Q43_1000009 W43_1000005 Q43_1000005 i) _
  unfold S43 c43
  have j1 := J43a (x1 := [114]) hn hi (by simp) (by simp)
  have j2 := J43a (x1 := [119]) hn hi (by simp) (by simp)
  rw [show Q43_1000005 ((), [114], i, ()) = true from Tj.K j1, show Q43_1000005 ((), [119], i, ()) = true from Tj.K j2]
  exact Ts.ite (fun _ => Tj.S j1 rfl) (fun _ => Tj.S j2 rfl)

end Go.Proofs
