import Derived.Test.YtjnbpklllapjiaaM
import Derived.Test.YtjnbpklllapjiaaGe
namespace Go.Proofs
open Go.GX
set_option linter.unusedVariables false
set_option linter.unusedSimpArgs false
/-! ## Ids that go together: a table, and two maps -/
abbrev PL := List (Int × Int)
def hit (a b : Int) (p : Int × Int) : Bool := decide (p.1 = a) || decide (p.2 = b)
def tgo (P : PL) (a b : Int) : Bool × PL := match P.find? (hit a b) with
  | none => (true, P ++ [(a, b)])
  | some p => (decide (p.1 = a) && decide (p.2 = b), P)
def ND (P : PL) : Prop := (P.map (·.1)).Nodup ∧ (P.map (·.2)).Nodup
theorem ND_nil : ND [] := ⟨List.nodup_nil, List.nodup_nil⟩
theorem nd_uniq {f : Int × Int → Int} : ∀ {P : PL}, (P.map f).Nodup → ∀ {p q : Int × Int}, p ∈ P → q ∈ P → f p = f q → p = q
  | [], _, p, q, hp, _, _ => by cases hp
  | x :: r, h, p, q, hp, hq, e => by
    rw [List.map_cons, List.nodup_cons] at h
    rcases List.mem_cons.1 hp with h1 | h1
    · rcases List.mem_cons.1 hq with h2 | h2
      · rw [h1, h2]
      · exact absurd (List.mem_map.2 ⟨q, h2, by rw [← e, h1]⟩) h.1
    · rcases List.mem_cons.1 hq with h2 | h2
      · exact absurd (List.mem_map.2 ⟨p, h1, by rw [e, h2]⟩) h.1
      · exact nd_uniq h.2 h1 h2 e
theorem ND_uniq1 {P : PL} (h : ND P) {p q : Int × Int} (hp : p ∈ P) (hq : q ∈ P) (e : p.1 = q.1) : p = q := nd_uniq (f := (·.1)) h.1 hp hq e
theorem ND_uniq2 {P : PL} (h : ND P) {p q : Int × Int} (hp : p ∈ P) (hq : q ∈ P) (e : p.2 = q.2) : p = q := nd_uniq (f := (·.2)) h.2 hp hq e
theorem hit_f {a b : Int} {p : Int × Int} : hit a b p = false ↔ ¬ p.1 = a ∧ ¬ p.2 = b := by unfold hit; simp
theorem hit_t {a b : Int} {p : Int × Int} : hit a b p = true ↔ p.1 = a ∨ p.2 = b := by unfold hit; simp
theorem tgo_none {P : PL} {a b : Int} (h : ∀ p ∈ P, ¬ p.1 = a ∧ ¬ p.2 = b) : tgo P a b = (true, P ++ [(a, b)]) := by
  unfold tgo
  have : P.find? (hit a b) = none := List.find?_eq_none.2 (fun p hp => by rw [hit_f.2 (h p hp)]; exact Bool.false_ne_true)
  rw [this]
theorem tgo_some {P : PL} {a b : Int} {p : Int × Int} (h : P.find? (hit a b) = some p) : tgo P a b = (decide (p.1 = a) && decide (p.2 = b), P) := by unfold tgo; rw [h]
theorem ND_tgo {P : PL} (h : ND P) (a b : Int) : ND (tgo P a b).2 := by
  cases hf : P.find? (hit a b) with
  | some p => rw [tgo_some hf]; exact h
  | none =>
    have hn : ∀ p ∈ P, ¬ p.1 = a ∧ ¬ p.2 = b := fun p hp => hit_f.1 (by simpa using List.find?_eq_none.1 hf p hp)
    rw [tgo_none hn]
    refine ⟨?_, ?_⟩
    · show ((P ++ [(a, b)]).map (·.1)).Nodup
      rw [List.map_append, List.nodup_append]
      exact ⟨h.1, by simp, fun x hx y hy => by
        simp at hy; subst hy
        obtain ⟨p, hp, rfl⟩ := List.mem_map.1 hx
        exact (hn p hp).1⟩
    · show ((P ++ [(a, b)]).map (·.2)).Nodup
      rw [List.map_append, List.nodup_append]
      exact ⟨h.2, by simp, fun x hx y hy => by
        simp at hy; subst hy
        obtain ⟨p, hp, rfl⟩ := List.mem_map.1 hx
        exact (hn p hp).2⟩
theorem tgo_len (P : PL) (a b : Int) : (tgo P a b).2.length ≤ P.length + 1 := by
  unfold tgo
  cases P.find? (hit a b) with
  | some p => exact Nat.le_succ _
  | none => simp
/-! ### The table -/
def tb (P : PL) : KD31 := (P.map (·.1), (P.map (·.2), ()))
theorem put0 {l : List Int} : sec 0 l 0 l.length = l := sec_full rfl
theorem le00 {n : Nat} : decide (0 + n ≤ n) = true := decide_eq_true (by omega)
abbrev T33 (a b : Int) (i : Nat) (P : PL) : (Unit × Int × Int × Int × KD10 × Unit) := ((), a, b, (i : Int), tb P, ())
theorem V33_in {P : PL} {a b : Int} {i : Nat} (hl : P.length ≤ 2097152) (hi : i < P.length) :
    V33_0 (T33 a b i P) = some (if hit a b (P.getD i (0, 0)) = true then .inr (.inr (decide ((P.getD i (0, 0)).1 = a) && decide ((P.getD i (0, 0)).2 = b), tb P, ())) else .inl (T33 a b (i + 1) P)) := by
  show R33_0 _ _ () a b (i : Int) (P.map (·.1), (P.map (·.2), ())) = _
  unfold R33_0
  dsimp only
  have g1 : (P.map (·.1)).getD (0 + i) 0 = (P.getD i (0, 0)).1 := by simp [List.getD, hi]
  have g2 : (P.map (·.2)).getD (0 + i) 0 = (P.getD i (0, 0)).2 := by simp [List.getD, hi]
  have l1 : (P.map (·.1)).length = P.length := List.length_map ..
  have l2 : (P.map (·.2)).length = P.length := List.length_map ..
  have e1 : IntKind.wrap .i64 ((i : Int) + 1) = ((i + 1 : Nat) : Int) := by rw [wi64 (by omega)]; omega
  have hi' : decide ((i : Int) < ((P.length : Nat) : Int)) = true := decide_eq_true (by omega)
  have hi0 : decide (0 ≤ (i : Int)) = true := decide_eq_true (by omega)
  have hi1 : decide (0 + i < P.length) = true := decide_eq_true (by omega)
  have p1 : sec 0 (P.map (·.1)) 0 P.length = P.map (·.1) := sec_full l1
  have p2 : sec 0 (P.map (·.2)) 0 P.length = P.map (·.2) := sec_full l2
  rw [e1, show Int.toNat (i : Int) = i by omega, g1, g2, l1, l2, p1, p2, hi', hi0, hi1, le00]
  unfold hit
  by_cases h1 : (P.getD i (0, 0)).1 = a
  · rw [decide_eq_true h1]; rfl
  · rw [decide_eq_false h1]
    by_cases h2 : (P.getD i (0, 0)).2 = b
    · rw [decide_eq_true h2]; rfl
    · rw [decide_eq_false h2]; rfl
theorem V33_end {P : PL} {a b : Int} {i : Nat} (hi : P.length ≤ i) : V33_0 (T33 a b i P) = some (.inr (.inl ((), a, b, tb P, ()))) := by
  show R33_0 _ _ () a b (i : Int) (P.map (·.1), (P.map (·.2), ())) = _
  unfold R33_0
  dsimp only
  have l1 : (P.map (·.1)).length = P.length := List.length_map ..
  have l2 : (P.map (·.2)).length = P.length := List.length_map ..
  have p1 : sec 0 (P.map (·.1)) 0 P.length = P.map (·.1) := sec_full l1
  have p2 : sec 0 (P.map (·.2)) 0 P.length = P.map (·.2) := sec_full l2
  rw [l1, l2, p1, p2, le00, decide_eq_false (show ¬ (i : Int) < ((P.length : Nat) : Int) by omega)]
  rfl
theorem wh33 {P : PL} {a b : Int} (hl : P.length ≤ 2097152) : ∀ (n i : Nat), P.length ≤ i + n →
    wh V33_0 (T33 a b i P) = some (match (P.drop i).find? (hit a b) with | some p => .inr (decide (p.1 = a) && decide (p.2 = b), tb P, ()) | none => .inl ((), a, b, tb P, ()))
  | 0, i, hn => by
    rw [List.drop_eq_nil_of_le (by omega)]
    exact wh_stop (V33_end (by omega))
  | n + 1, i, hn => by
    by_cases hi : P.length ≤ i
    · rw [List.drop_eq_nil_of_le hi]
      exact wh_stop (V33_end hi)
    · have hlt : i < P.length := by omega
      have hd : P.drop i = P.getD i (0, 0) :: P.drop (i + 1) := by
        rw [List.drop_eq_getElem_cons hlt]
        simp [List.getD, hlt]
      have hV := V33_in (a := a) (b := b) hl hlt
      rw [hd, List.find?_cons]
      cases hh : hit a b (P.getD i (0, 0)) with
      | true =>
        rw [hh, if_pos rfl] at hV
        exact wh_stop hV
      | false =>
        rw [hh, if_neg Bool.false_ne_true] at hV
        rw [wh_next hV]
        exact wh33 hl n (i + 1) (by omega)
theorem E33_eq {P : PL} {a b : Int} (hl : P.length ≤ 2097152) : E33 (tb P) (a, b, ()) = some ((tgo P a b).1, tb (tgo P a b).2) := by
  have hw := wh33 (a := a) (b := b) hl P.length 0 (by omega)
  have l1 : (P.map (·.1)).length = P.length := List.length_map ..
  have l2 : (P.map (·.2)).length = P.length := List.length_map ..
  have p1 : sec 0 (P.map (·.1)) 0 P.length = P.map (·.1) := sec_full l1
  have p2 : sec 0 (P.map (·.2)) 0 P.length = P.map (·.2) := sec_full l2
  have kw : Q33_0 (T33 a b 0 P) = true := whK_of hw
  rw [show P.drop 0 = P from rfl] at hw
  show S33 W33_0 Q33_0 (P.map (·.1), (P.map (·.2), ())) a b = _
  unfold S33
  dsimp only
  rw [l1, l2, p1, p2, le00]
  have kw' : Q33_0 ((), a, b, 0, (P.map (·.1), (P.map (·.2), ())), ()) = true := kw
  cases hf : P.find? (hit a b) with
  | some p =>
    rw [hf] at hw
    have ww : W33_0 ((), a, b, 0, (P.map (·.1), (P.map (·.2), ())), ()) = .inr (decide (p.1 = a) && decide (p.2 = b), tb P, ()) := whV_of hw
    rw [tgo_some hf, ww, kw']
    simp only [isL, getR, tb, l1, l2, p1, p2, le00]
    rfl
  | none =>
    rw [hf] at hw
    have ww : W33_0 ((), a, b, 0, (P.map (·.1), (P.map (·.2), ())), ()) = .inl ((), a, b, tb P, ()) := whV_of hw
    have ht : tgo P a b = (true, P ++ [(a, b)]) := by unfold tgo; rw [hf]
    rw [ht, ww, kw']
    have q1 : sec 0 (P.map (·.1) ++ [a]) 0 (P.length + 1) = P.map (·.1) ++ [a] := sec_full (by simp)
    have q2 : sec 0 (P.map (·.2) ++ [b]) 0 (P.length + 1) = P.map (·.2) ++ [b] := sec_full (by simp)
    have q3 : decide ((P.length + 1) * 8 ≤ 140737488355328) = true := decide_eq_true (by omega)
    simp only [isL, getL, tb, l1, l2, p1, p2, le00, q1, q2, q3, List.map_append, List.map_cons, List.map_nil]
    rfl
end Go.Proofs
