import Derived.Test.YtjnbpklllapjiaaN
namespace Go.Proofs
open Go.GX
set_option linter.unusedVariables false
set_option linter.unusedSimpArgs false
/-! ### Two maps that say the same -/
abbrev I6 : Ty := .int .i64
def row (f g : Int × Int → Int) (P : PL) : List (Int × (Int × Unit)) := P.map (fun p => (f p, (g p, ())))
theorem eqbI (a b : Int) : eqb I6 a b = decide (a = b) := rfl
theorem mhas_row {f g : Int × Int → Int} {k : Int} : ∀ {P : PL}, mhas I6 I6 (row f g P) k = P.any (fun p => decide (k = f p))
  | [] => rfl
  | p :: r => by
    show (bif eqb I6 k (f p) then true else mhas I6 I6 (row f g r) k) = _
    rw [eqbI, mhas_row (P := r), List.any_cons]
    cases decide (k = f p) <;> rfl
theorem mget_row {f g : Int × Int → Int} {k : Int} : ∀ {P : PL} {p : Int × Int}, (P.map f).Nodup → p ∈ P → f p = k → mget I6 I6 0 (row f g P) k = g p
  | [], p, _, h, _ => by cases h
  | x :: r, p, hn, h, e => by
    show (bif eqb I6 k (f x) then g x else mget I6 I6 0 (row f g r) k) = _
    rw [eqbI]
    by_cases hx : k = f x
    · rw [decide_eq_true hx]
      have := nd_uniq hn (List.mem_cons_self ..) h (by rw [e, hx])
      rw [this]; rfl
    · rw [decide_eq_false hx]
      rcases List.mem_cons.1 h with h1 | h1
      · exact absurd (by rw [← e, h1]) hx
      · rw [List.map_cons, List.nodup_cons] at hn
        exact mget_row hn.2 h1 e
theorem mix_row {f g : Int × Int → Int} {k : Int} : ∀ {P : PL}, (∀ p ∈ P, ¬ f p = k) → mix I6 I6 (row f g P) k = P.length
  | [], _ => rfl
  | x :: r, h => by
    show (bif eqb I6 k (f x) then 0 else mix I6 I6 (row f g r) k + 1) = _
    rw [eqbI, decide_eq_false (fun e => h x (List.mem_cons_self ..) e.symm), mix_row (P := r) (fun p hp => h p (List.mem_cons_of_mem _ hp))]
    rfl
theorem mset_app {v d k : Int} : ∀ {r : List (Int × (Int × Unit))}, mset I6 I6 (r ++ [(k, (d, ()))]) r.length v = r ++ [(k, (v, ()))]
  | [] => rfl
  | x :: r => by
    show x :: mset I6 I6 (r ++ [(k, (d, ()))]) r.length v = _
    rw [mset_app (r := r)]; rfl
def pr (P : PL) : KD28 := (row (·.1) (·.2) P, (row (·.2) (·.1) P, ()))
theorem row_len {f g : Int × Int → Int} {P : PL} : (row f g P).length = P.length := List.length_map ..
theorem any_f {f : Int × Int → Int} {k : Int} {P : PL} : P.any (fun p => decide (k = f p)) = false ↔ ∀ p ∈ P, ¬ f p = k := by
  rw [List.any_eq_false]
  exact ⟨fun h p hp e => h p hp (decide_eq_true e.symm), fun h p hp e => h p hp (of_decide_eq_true e).symm⟩
theorem any_t {f : Int × Int → Int} {k : Int} {P : PL} (h : P.any (fun p => decide (k = f p)) = true) : ∃ p ∈ P, f p = k := by
  obtain ⟨p, hp, e⟩ := List.any_eq_true.1 h
  exact ⟨p, hp, (of_decide_eq_true e).symm⟩
theorem mins_row {f g : Int × Int → Int} {k : Int} {P : PL} (h : ∀ p ∈ P, ¬ f p = k) : mins I6 I6 0 (row f g P) k = row f g P ++ [(k, (0, ()))] := by
  unfold mins
  rw [mhas_row, any_f.2 h]; rfl
theorem E30_eq {P : PL} (hP : ND P) (a b : Int) : E30 (pr P) (a, b, ()) = some ((tgo P a b).1, pr (tgo P a b).2) := by
  show S30 (row (·.1) (·.2) P, (row (·.2) (·.1) P, ())) a b = _
  unfold S30
  dsimp only
  rw [mhas_row, mhas_row]
  cases h1 : P.any (fun p => decide (a = p.1)) with
  | false =>
    have h1' : ∀ p ∈ P, ¬ p.1 = a := any_f.1 h1
    cases h2 : P.any (fun p => decide (b = p.2)) with
    | false =>
      have h2' : ∀ p ∈ P, ¬ p.2 = b := any_f.1 h2
      have ht : tgo P a b = (true, P ++ [(a, b)]) := tgo_none (fun p hp => ⟨h1' p hp, h2' p hp⟩)
      rw [ht, mix_row h1', mix_row h2', mins_row h1', mins_row h2']
      have e0 : Int.toNat ((P.length : Nat) : Int) = P.length := by omega
      have l1 : (row (·.1) (·.2) P ++ [(a, ((0 : Int), ()))]).length = P.length + 1 := by rw [List.length_append, row_len]; rfl
      have l2 : (row (·.2) (·.1) P ++ [(b, ((0 : Int), ()))]).length = P.length + 1 := by rw [List.length_append, row_len]; rfl
      have m1 : mset I6 I6 (row (·.1) (·.2) P ++ [(a, ((0 : Int), ()))]) P.length b = row (·.1) (·.2) P ++ [(a, (b, ()))] := by
        have := mset_app (v := b) (d := 0) (k := a) (r := row (·.1) (·.2) P)
        rwa [row_len] at this
      have m2 : mset I6 I6 (row (·.2) (·.1) P ++ [(b, ((0 : Int), ()))]) P.length a = row (·.2) (·.1) P ++ [(b, (a, ()))] := by
        have := mset_app (v := a) (d := 0) (k := b) (r := row (·.2) (·.1) P)
        rwa [row_len] at this
      rw [e0, l1, l2, m1, m2, decide_eq_true (show P.length < P.length + 1 by omega), decide_eq_true (show 0 ≤ ((P.length : Nat) : Int) by omega)]
      have e1 : row (·.1) (·.2) (P ++ [(a, b)]) = row (·.1) (·.2) P ++ [(a, (b, ()))] := by unfold row; rw [List.map_append]; rfl
      have e2 : row (·.2) (·.1) (P ++ [(a, b)]) = row (·.2) (·.1) P ++ [(b, (a, ()))] := by unfold row; rw [List.map_append]; rfl
      unfold pr
      rw [e1, e2]; rfl
    | true =>
      obtain ⟨q, hq, hqb⟩ := any_t h2
      cases hf : P.find? (hit a b) with
      | none => exact absurd (hit_t.2 (.inr hqb)) (by simpa using List.find?_eq_none.1 hf q hq)
      | some p =>
        have hp := List.mem_of_find?_eq_some hf
        rw [tgo_some hf, decide_eq_false (h1' p hp)]
        rfl
  | true =>
    obtain ⟨r, hr, hra⟩ := any_t h1
    cases hf : P.find? (hit a b) with
    | none => exact absurd (hit_t.2 (.inl hra)) (by simpa using List.find?_eq_none.1 hf r hr)
    | some p =>
      have hp := List.mem_of_find?_eq_some hf
      rw [tgo_some hf]
      have hh := hit_t.1 (List.find?_some hf)
      cases h2 : P.any (fun p => decide (b = p.2)) with
      | false =>
        have h2' : ∀ p ∈ P, ¬ p.2 = b := any_f.1 h2
        rw [decide_eq_false (h2' p hp), Bool.and_false]
        rfl
      | true =>
        obtain ⟨q, hq, hqb⟩ := any_t h2
        rw [mget_row (f := (·.1)) (g := (·.2)) hP.1 hr hra, mget_row (f := (·.2)) (g := (·.1)) hP.2 hq hqb]
        by_cases hra2 : r.2 = b
        · have hqr : q = r := ND_uniq2 hP hq hr (by rw [hqb, hra2])
          subst hqr
          have hpq : p = q := by
            rcases hh with h | h
            · exact ND_uniq1 hP hp hq (by rw [h, hra])
            · exact ND_uniq2 hP hp hq (by rw [h, hqb])
          subst hpq
          rw [decide_eq_true hra2, decide_eq_true hra]
          rfl
        · have hno : (decide (p.1 = a) && decide (p.2 = b)) = false := by
            by_cases e : p.1 = a
            · have : p = r := ND_uniq1 hP hp hr (by rw [e, hra])
              rw [this, decide_eq_false hra2, Bool.and_false]
            · rw [decide_eq_false e]; rfl
          rw [hno, decide_eq_false hra2]
          rfl
theorem F30_e {P : PL} (hP : ND P) (a b : Int) : F30 (row (·.1) (·.2) P, (row (·.2) (·.1) P, ())) (a, b, ()) = (tgo P a b).1 ∧ H30 (row (·.1) (·.2) P, (row (·.2) (·.1) P, ())) (a, b, ()) = pr (tgo P a b).2 ∧ G30 (row (·.1) (·.2) P, (row (·.2) (·.1) P, ())) (a, b, ()) = true := by
  have h := E30_eq hP a b
  refine ⟨?_, ?_, by show (E30 (pr P) (a, b, ())).isSome = true; rw [h]; rfl⟩
  · show ((E30 (pr P) (a, b, ())).getD _).1 = _; rw [h]; rfl
  · show ((E30 (pr P) (a, b, ())).getD _).2 = _; rw [h]; rfl
theorem F33_e {P : PL} (hl : P.length ≤ 2097152) (a b : Int) : F33 (P.map (·.1), (P.map (·.2), ())) (a, b, ()) = (tgo P a b).1 ∧ H33 (P.map (·.1), (P.map (·.2), ())) (a, b, ()) = tb (tgo P a b).2 ∧ G33 (P.map (·.1), (P.map (·.2), ())) (a, b, ()) = true := by
  have h := E33_eq (a := a) (b := b) hl
  refine ⟨?_, ?_, by show (E33 (tb P) (a, b, ())).isSome = true; rw [h]; rfl⟩
  · show ((E33 (tb P) (a, b, ())).getD _).1 = _; rw [h]; rfl
  · show ((E33 (tb P) (a, b, ())).getD _).2 = _; rw [h]; rfl
end Go.Proofs
