import Derived.Test.YtnbpakmcibjmaaaI
import Derived.Test.YtnbpakmcibjmaaaGd
namespace Go.Proofs
open Go.GX
set_option linter.unusedVariables false
set_option linter.unusedSimpArgs false
/-! ## A queue's deep value; what its methods do to it -/
abbrev Sp := Int × KDo0
abbrev ob (s : Sp) (q : List (List UInt8)) : KDo8 := (s, ((q, ()), ()))
theorem E19_eq {s : Sp} {q : List (List UInt8)} {v : List UInt8} (hq : q.length ≤ 4096) : E19 (ob s q) (v, ()) = some ((), ob s (q ++ [v])) := by
  show S19 (ob s q) v = _
  unfold S19
  dsimp only
  rw [sec_full (l := q) rfl, sec_full (l := q ++ [v]) (by simp), decide_eq_true (show 0 + q.length ≤ q.length by omega), decide_eq_true (show (q.length + 1) * 16 ≤ 140737488355328 by omega), decide_eq_true (show 0 + (q.length + 1) ≤ q.length + 1 by omega)]
  rfl
theorem E20_eq {s : Sp} {q : List (List UInt8)} {b : Bool} (hq : q.length ≤ 4096) : E20 (ob s q) (b, ()) = some (bif b then ((q.length : Nat) : Int) - 1 else 0) := by
  show S20 (ob s q) b = _
  unfold S20
  dsimp only
  rw [wi64 (by omega)]
  cases b <;> rfl
theorem E15_eq {s : Sp} {q : List (List UInt8)} : E15 (ob s q) () = some ((q.length : Nat) : Int) := by
  show S15 (ob s q) = _
  unfold S15
  rfl
theorem sec_take {α : Type} {d : α} {l : List α} {n : Nat} (h : n ≤ l.length) : sec d l 0 n = l.take n := by
  unfold sec
  apply List.ext_getElem
  · simp; omega
  · intro i h1 h2
    have h1' : i < n := by simpa using h1
    have h3 : i < l.length := by omega
    simp [List.getD, h3]
theorem sec_drop {α : Type} {d : α} {l : List α} {k n : Nat} (h : k + n = l.length) : sec d l k n = l.drop k := by
  unfold sec
  apply List.ext_getElem
  · simp; omega
  · intro i h1 h2
    have h1' : i < n := by simpa using h1
    have h3 : k + i < l.length := by omega
    simp [List.getD, h3]
def cut (q : List (List UInt8)) (k : Nat) : List (List UInt8) := q.take k ++ q.drop (k + 1)
theorem E18_eq {s : Sp} {q : List (List UInt8)} {k : Nat} (hk : k < q.length) (hq : q.length ≤ 4096) : E18 (ob s q) ((k : Int), ()) = some (q.getD k [], ob s (cut q k)) := by
  show S18 (ob s q) (k : Int) = _
  unfold S18
  dsimp only
  have e1 : IntKind.wrap .i64 ((k : Int) + 1) = ((k + 1 : Nat) : Int) := by rw [wi64 (by omega)]; omega
  have e2 : Int.toNat (((q.length : Nat) : Int) - ((k + 1 : Nat) : Int)) = q.length - (k + 1) := by omega
  have e3 : Int.toNat ((k : Int) - 0) = k := by omega
  have e4 : Int.toNat (k : Int) = k := by omega
  have e5 : Int.toNat ((k + 1 : Nat) : Int) = k + 1 := by omega
  rw [e1, e2, e3, e4, e5, show 0 + k = k by omega, show 0 + (k + 1) = k + 1 by omega, sec_take (l := q) (by omega), sec_full (l := q.take k) (by simp; omega), sec_drop (l := q) (k := k + 1) (by omega), sec_full (l := q.take k ++ q.drop (k + 1)) (by simp; omega)]
  rw [decide_eq_true (show 0 + k ≤ k by omega), decide_eq_true (show k + 1 + (q.length - (k + 1)) ≤ q.length by omega), decide_eq_true (show (k + (q.length - (k + 1))) * 16 ≤ 140737488355328 by omega), decide_eq_true (show ((q.length : Nat) : Int) ≤ ((q.length : Nat) : Int) by omega), decide_eq_true (show (0 : Int) ≤ ((q.length : Nat) : Int) by omega),
    decide_eq_true (show (0 : Int) ≤ ((k + 1 : Nat) : Int) by omega), decide_eq_true (show ((k + 1 : Nat) : Int) ≤ ((q.length : Nat) : Int) by omega), decide_eq_true (show k ≤ q.length by omega), decide_eq_true (show k * 16 ≤ 140737488355328 by omega), decide_eq_true (show (0 : Int) ≤ (k : Int) by omega), decide_eq_true (show (k : Int) ≤ ((q.length : Nat) : Int) by omega),
    decide_eq_true (show k < q.length by omega), decide_eq_true (show (k : Int) < ((q.length : Nat) : Int) by omega), decide_eq_true (show 0 + (k + (q.length - (k + 1))) ≤ k + (q.length - (k + 1)) by omega)]
  rfl
def pl (s : Sp) (q : List (List UInt8)) : Nat := if s.1 = 23 then q.length - 1 else 0
theorem F20_e {s : Sp} {q : List (List UInt8)} (hq : q.length ≤ 4096) (h0 : 0 < q.length) : F20 (s, ((q, ()), ())) (decide (s.1 = 23), ()) = ((pl s q : Nat) : Int) ∧ G20 (s, ((q, ()), ())) (decide (s.1 = 23), ()) = true := by
  have h := E20_eq (s := s) (b := decide (s.1 = 23)) hq
  refine ⟨?_, by show (E20 (ob s q) (decide (s.1 = 23), ())).isSome = true; rw [h]; rfl⟩
  show (E20 (ob s q) (decide (s.1 = 23), ())).getD _ = _
  rw [h]
  unfold pl
  by_cases e : s.1 = 23
  · rw [if_pos e, decide_eq_true e]
    show ((q.length : Nat) : Int) - 1 = _
    omega
  · rw [if_neg e, decide_eq_false e]; rfl
theorem pl_lt {s : Sp} {q : List (List UInt8)} (h0 : 0 < q.length) : pl s q < q.length := by unfold pl; split <;> omega
def pk (s : Sp) (q : List (List UInt8)) : KDo10 := bif decide (q.length = 0) then ([], 4, ()) else (q.getD (pl s q) [], 0, ())
theorem E13_eq {s : Sp} {q : List (List UInt8)} (hq : q.length ≤ 4096) : E13 (ob s q) () = some (pk s q) := by
  show S13 F20 G20 (ob s q) = _
  unfold S13 pk
  dsimp only
  by_cases h0 : q.length = 0
  · rw [decide_eq_true h0, decide_eq_true (show ((q.length : Nat) : Int) = 0 by omega)]; rfl
  · have hp := pl_lt (s := s) (q := q) (by omega)
    rw [decide_eq_false h0, decide_eq_false (show ¬ ((q.length : Nat) : Int) = 0 by omega), sec_full (l := q) rfl, (F20_e hq (by omega)).1, (F20_e hq (by omega)).2]
    rw [show Int.toNat ((pl s q : Nat) : Int) = pl s q by omega, show 0 + pl s q = pl s q by omega, decide_eq_true hp, decide_eq_true (show (0 : Int) ≤ ((pl s q : Nat) : Int) by omega), decide_eq_true (show ((pl s q : Nat) : Int) < ((q.length : Nat) : Int) by omega), decide_eq_true (show 0 + q.length ≤ q.length by omega)]
    rfl
theorem F13_e {s : Sp} {q : List (List UInt8)} (hq : q.length ≤ 4096) : F13 (s, ((q, ()), ())) () = pk s q ∧ G13 (s, ((q, ()), ())) () = true := by
  have h := E13_eq (s := s) hq
  exact ⟨by show (E13 (ob s q) ()).getD _ = _; rw [h]; rfl, by show (E13 (ob s q) ()).isSome = true; rw [h]; rfl⟩
theorem F18_e {s : Sp} {q : List (List UInt8)} {k : Nat} (hk : k < q.length) (hq : q.length ≤ 4096) : F18 (s, ((q, ()), ())) ((k : Int), ()) = q.getD k [] ∧ H18 (s, ((q, ()), ())) ((k : Int), ()) = ob s (cut q k) ∧ G18 (s, ((q, ()), ())) ((k : Int), ()) = true := by
  have h := E18_eq (s := s) hk hq
  refine ⟨?_, ?_, by show (E18 (ob s q) ((k : Int), ())).isSome = true; rw [h]; rfl⟩
  · show ((E18 (ob s q) ((k : Int), ())).getD _).1 = _; rw [h]; rfl
  · show ((E18 (ob s q) ((k : Int), ())).getD _).2 = _; rw [h]; rfl
theorem F19_e {s : Sp} {q : List (List UInt8)} {v : List UInt8} (hq : q.length ≤ 4096) : H19 (s, ((q, ()), ())) (v, ()) = ob s (q ++ [v]) ∧ G19 (s, ((q, ()), ())) (v, ()) = true := by
  have h := E19_eq (s := s) (v := v) hq
  refine ⟨?_, by show (E19 (ob s q) (v, ())).isSome = true; rw [h]; rfl⟩
  show ((E19 (ob s q) (v, ())).getD _).2 = _; rw [h]; rfl
theorem cut_len {q : List (List UInt8)} {k : Nat} (hk : k < q.length) : (cut q k).length + 1 = q.length := by unfold cut; simp; omega
def pop (s : Sp) (q : List (List UInt8)) : List (List UInt8) := bif decide (q.length = 0) then q else cut q (pl s q)
theorem E11_eq {s : Sp} {q : List (List UInt8)} (hq : q.length ≤ 4096) : E11 (ob s q) () = some (pk s q, ob s (pop s q)) := by
  show S11 F13 G13 F18 H18 G18 F20 G20 (ob s q) = _
  unfold S11
  dsimp only
  rw [sec_full (l := q) rfl, (F13_e hq).1, (F13_e hq).2]
  unfold pk pop
  by_cases h0 : q.length = 0
  · rw [decide_eq_true h0, decide_eq_true (show 0 + q.length ≤ q.length by omega)]; rfl
  · have hp := pl_lt (s := s) (q := q) (by omega)
    have hc := cut_len hp
    rw [decide_eq_false h0, (F20_e hq (by omega)).1, (F20_e hq (by omega)).2, (F18_e hp hq).2.1, (F18_e hp hq).2.2, decide_eq_true (show 0 + q.length ≤ q.length by omega)]
    dsimp only
    rw [sec_full (l := cut q (pl s q)) rfl, decide_eq_true (show 0 + (cut q (pl s q)).length ≤ (cut q (pl s q)).length by omega)]
    rfl
def okp (s : Sp) (v : List UInt8) (f : Int) : Bool := decide (((v.length : Nat) : Int) = s.2.2.1) && (decide (f = 0) || decide (f = 2))
def psh (s : Sp) (q : List (List UInt8)) (v : List UInt8) (f : Int) : Int × List (List UInt8) :=
  bif okp s v f then (bif decide (((q.length : Nat) : Int) = s.2.2.2.1) then (bif decide (f = 0) then (3, q) else (0, cut q 0 ++ [v])) else (0, q ++ [v])) else (1, q)
theorem E9_eq {s : Sp} {q : List (List UInt8)} {v : List UInt8} {f : Int} (hq : q.length ≤ 4096) (hm : 1 ≤ s.2.2.2.1) : E9 (ob s q) (v, f, ()) = some ((psh s q v f).1, ob s (psh s q v f).2) := by
  show S9 F18 H18 G18 F19 H19 G19 (ob s q) v f = _
  unfold S9 psh okp
  dsimp only
  rw [sec_full (l := q) rfl, decide_eq_true (show 0 + q.length ≤ q.length by omega), (F19_e hq).1, (F19_e hq).2]
  have put : ∀ r : List (List UInt8), sec [] r 0 r.length = r := fun r => sec_full rfl
  have le : ∀ r : List (List UInt8), decide (0 + r.length ≤ r.length) = true := fun r => decide_eq_true (by omega)
  cases decide (((v.length : Nat) : Int) = s.2.2.1)
  · rfl
  · by_cases f0 : f = 0
    · rw [decide_eq_true f0]
      by_cases hM : ((q.length : Nat) : Int) = s.2.2.2.1
      · rw [decide_eq_true hM]; rfl
      · rw [decide_eq_false hM]
        dsimp only
        simp only [put, le]; rfl
    · rw [decide_eq_false f0]
      by_cases f2 : f = 2
      · rw [decide_eq_true f2]
        by_cases hM : ((q.length : Nat) : Int) = s.2.2.2.1
        · rw [decide_eq_true hM]
          have h0 : 0 < q.length := by omega
          have hc := cut_len h0
          have h18 := F18_e (s := s) h0 hq
          have e0 : ((0 : Nat) : Int) = 0 := rfl
          rw [e0] at h18
          rw [h18.2.1, h18.2.2]
          dsimp only
          rw [put (cut q 0), (F19_e (q := cut q 0) (by omega)).1, (F19_e (q := cut q 0) (by omega)).2]
          dsimp only
          simp only [put, le]; rfl
        · rw [decide_eq_false hM]
          dsimp only
          simp only [put, le]; rfl
      · rw [decide_eq_false f2]; rfl
/-! ## The reference's -/
abbrev or_ (s : Sp) (q : List (List UInt8)) : KDo9 := (s, (q, ()))
theorem F21_e {s : Sp} {q : List (List UInt8)} (hq : q.length ≤ 4096) (h0 : 0 < q.length) : F21 (s, (q, ())) () = ((pl s q : Nat) : Int) ∧ G21 (s, (q, ())) () = true := by
  have h : E21 (or_ s q) () = some ((pl s q : Nat) : Int) := by
    show S21 (or_ s q) = _
    unfold S21 pl
    dsimp only
    by_cases e : s.1 = 23
    · rw [if_pos e, decide_eq_true e, wi64 (by omega)]
      show some (((q.length : Nat) : Int) - 1) = _
      rw [show ((q.length : Nat) : Int) - 1 = ((q.length - 1 : Nat) : Int) by omega]
    · rw [if_neg e, decide_eq_false e]; rfl
  exact ⟨by show (E21 (or_ s q) ()).getD _ = _; rw [h]; rfl, by show (E21 (or_ s q) ()).isSome = true; rw [h]; rfl⟩
theorem E14_eq {s : Sp} {q : List (List UInt8)} (hq : q.length ≤ 4096) : E14 (or_ s q) () = some (pk s q) := by
  show S14 F21 G21 (or_ s q) = _
  unfold S14 pk
  dsimp only
  by_cases h0 : q.length = 0
  · rw [decide_eq_true h0, decide_eq_true (show ((q.length : Nat) : Int) = 0 by omega)]; rfl
  · have hp := pl_lt (s := s) (q := q) (by omega)
    rw [decide_eq_false h0, decide_eq_false (show ¬ ((q.length : Nat) : Int) = 0 by omega), sec_full (l := q) rfl, (F21_e hq (by omega)).1, (F21_e hq (by omega)).2]
    rw [show Int.toNat ((pl s q : Nat) : Int) = pl s q by omega, show 0 + pl s q = pl s q by omega, decide_eq_true hp, decide_eq_true (show (0 : Int) ≤ ((pl s q : Nat) : Int) by omega), decide_eq_true (show ((pl s q : Nat) : Int) < ((q.length : Nat) : Int) by omega), decide_eq_true (show 0 + q.length ≤ q.length by omega)]
    rfl
theorem F14_e {s : Sp} {q : List (List UInt8)} (hq : q.length ≤ 4096) : F14 (s, (q, ())) () = pk s q ∧ G14 (s, (q, ())) () = true := by
  have h := E14_eq (s := s) hq
  exact ⟨by show (E14 (or_ s q) ()).getD _ = _; rw [h]; rfl, by show (E14 (or_ s q) ()).isSome = true; rw [h]; rfl⟩
theorem E12_eq {s : Sp} {q : List (List UInt8)} (hq : q.length ≤ 4096) : E12 (or_ s q) () = some (pk s q, or_ s (pop s q)) := by
  show S12 F14 G14 F21 G21 (or_ s q) = _
  unfold S12
  dsimp only
  rw [sec_full (l := q) rfl, (F14_e hq).1, (F14_e hq).2, decide_eq_true (show 0 + q.length ≤ q.length by omega)]
  unfold pk pop
  by_cases h0 : q.length = 0
  · rw [decide_eq_true h0]; rfl
  · have hk := pl_lt (s := s) (q := q) (by omega)
    rw [decide_eq_false h0, (F21_e hq (by omega)).1, (F21_e hq (by omega)).2]
    generalize pl s q = k at hk ⊢
    have e1 : IntKind.wrap .i64 ((k : Int) + 1) = ((k + 1 : Nat) : Int) := by rw [wi64 (by omega)]; omega
    have e2 : Int.toNat (((q.length : Nat) : Int) - ((k + 1 : Nat) : Int)) = q.length - (k + 1) := by omega
    have e3 : Int.toNat ((k : Int) - 0) = k := by omega
    have e5 : Int.toNat ((k + 1 : Nat) : Int) = k + 1 := by omega
    simp only [e1, e2, e3, e5, show 0 + k = k by omega, show 0 + (k + 1) = k + 1 by omega]
    rw [sec_take (l := q) (by omega), sec_full (l := q.take k) (by simp; omega), sec_drop (l := q) (k := k + 1) (by omega), sec_full (l := q.take k ++ q.drop (k + 1)) (by simp; omega)]
    rw [decide_eq_true (show k ≤ k by omega), decide_eq_true (show k + 1 + (q.length - (k + 1)) ≤ q.length by omega), decide_eq_true (show (k + (q.length - (k + 1))) * 16 ≤ 140737488355328 by omega), decide_eq_true (show ((q.length : Nat) : Int) ≤ ((q.length : Nat) : Int) by omega), decide_eq_true (show (0 : Int) ≤ ((q.length : Nat) : Int) by omega),
      decide_eq_true (show (0 : Int) ≤ ((k + 1 : Nat) : Int) by omega), decide_eq_true (show ((k + 1 : Nat) : Int) ≤ ((q.length : Nat) : Int) by omega), decide_eq_true (show k ≤ q.length by omega), decide_eq_true (show k * 16 ≤ 140737488355328 by omega), decide_eq_true (show (0 : Int) ≤ (k : Int) by omega), decide_eq_true (show (k : Int) ≤ ((q.length : Nat) : Int) by omega),
      decide_eq_true (show 0 + (k + (q.length - (k + 1))) ≤ k + (q.length - (k + 1)) by omega)]
    rfl
theorem E10_eq {s : Sp} {q : List (List UInt8)} {v : List UInt8} {f : Int} (hq : q.length ≤ 4096) (hm : 1 ≤ s.2.2.2.1) : E10 (or_ s q) (v, f, ()) = some ((psh s q v f).1, or_ s (psh s q v f).2) := by
  show S10 (or_ s q) v f = _
  unfold S10 psh okp
  dsimp only
  have e1 : Int.toNat (((q.length : Nat) : Int) - 1) = q.length - 1 := by omega
  simp only [e1, Nat.zero_add, sec_full (l := q) rfl, decide_eq_true (Nat.le_refl q.length), decide_eq_true (Nat.le_refl (q.length - 1)), decide_eq_true (show (q.length + 1) * 16 ≤ 140737488355328 by omega), decide_eq_true (show (q.length - 1 + 1) * 16 ≤ 140737488355328 by omega), decide_eq_true (show q.length * 16 ≤ 140737488355328 by omega), decide_eq_true (show (q.length - 1) * 16 ≤ 140737488355328 by omega),
    decide_eq_true (Nat.le_refl (q.length + 1)), decide_eq_true (Nat.le_refl (q.length - 1 + 1)), sec_full (l := q ++ [v]) (n := q.length + 1) (by simp)]
  cases decide (((v.length : Nat) : Int) = s.2.2.1)
  · rfl
  · by_cases hM : ((q.length : Nat) : Int) = s.2.2.2.1
    · have h0 : 0 < q.length := by omega
      have hd : sec [] q 1 (q.length - 1) = q.drop 1 := sec_drop (by omega)
      have hl : (q.drop 1).length = q.length - 1 := by simp
      simp only [decide_eq_true hM, hd, sec_full (l := q.drop 1) hl, sec_full (l := q.drop 1 ++ [v]) (n := q.length - 1 + 1) (by simp), decide_eq_true (show (0 : Int) ≤ 1 by omega), decide_eq_true (show (1 : Int) ≤ ((q.length : Nat) : Int) by omega), decide_eq_true (show (0 : Int) ≤ ((q.length : Nat) : Int) by omega), decide_eq_true (Int.le_refl ((q.length : Nat) : Int)), decide_eq_true (show 1 + (q.length - 1) ≤ q.length by omega)]
      cases decide (f = 0) <;> cases decide (f = 2) <;> rfl
    · simp only [decide_eq_false hM]
      cases decide (f = 0) <;> cases decide (f = 2) <;> rfl
/-! ## New -/
def may (s : Sp) : Prop := (s.1 = 22 ∨ s.1 = 23) ∧ s.2.1 = 0 ∧ ¬ s.2.2.1 < 1 ∧ ¬ s.2.2.1 > 4096 ∧ ¬ s.2.2.2.1 < 1 ∧ ¬ s.2.2.2.1 > 4096
theorem E7_eq {s : Sp} (h : may s) : E7 (s, ()) = some ((0, ()), ob s []) := by
  obtain ⟨h1, h2, h3, h4, h5, h6⟩ := h
  show S7 s = _
  unfold S7
  rw [decide_eq_true h2, decide_eq_false h3, decide_eq_false h4, decide_eq_false h5, decide_eq_false h6]
  by_cases e : s.1 = 22
  · rw [decide_eq_true e]; rfl
  · rw [decide_eq_false e, decide_eq_true (h1.resolve_left e)]; rfl
instance {s : Sp} : Decidable (may s) := by unfold may; infer_instance
theorem E7n_eq {s : Sp} (h : ¬ may s) : E7n (s, ()) = some (1, ()) := by
  show S7n s = _
  unfold S7n may at *
  by_cases h1 : s.1 = 22 <;> by_cases h1' : s.1 = 23 <;> by_cases h2 : s.2.1 = 0 <;> by_cases h3 : s.2.2.1 < 1 <;> by_cases h4 : s.2.2.1 > 4096 <;> by_cases h5 : s.2.2.2.1 < 1 <;> by_cases h6 : s.2.2.2.1 > 4096 <;>
    first
    | (exfalso; apply h; simp only [h1, h1', h2, h3, h4, h5, h6, true_or, or_true, not_false_eq_true, and_self, true_and]; done)
    | (simp [h1, h1', h2, h3, h4, h5, h6]; done)
    | (exfalso; omega)
theorem E17_eq (s : Sp) : E17 (s, ()) = some (decide (may s)) := by
  show S17 s = _
  unfold S17 may
  have e3 : (s.2.2.1 ≥ 1) = ¬ s.2.2.1 < 1 := by apply propext; omega
  have e4 : (s.2.2.1 ≤ 4096) = ¬ s.2.2.1 > 4096 := by apply propext; omega
  have e5 : (s.2.2.2.1 ≥ 1) = ¬ s.2.2.2.1 < 1 := by apply propext; omega
  have e6 : (s.2.2.2.1 ≤ 4096) = ¬ s.2.2.2.1 > 4096 := by apply propext; omega
  simp only [e3, e4, e5, e6]
  by_cases h1 : s.1 = 22
  · have h1' : ¬ s.1 = 23 := by omega
    by_cases h2 : s.2.1 = 0 <;> by_cases h3 : s.2.2.1 < 1 <;> by_cases h4 : s.2.2.1 > 4096 <;> by_cases h5 : s.2.2.2.1 < 1 <;> by_cases h6 : s.2.2.2.1 > 4096 <;>
      simp [h1, h2, h3, h4, h5, h6]
  · by_cases h1' : s.1 = 23 <;> by_cases h2 : s.2.1 = 0 <;> by_cases h3 : s.2.2.1 < 1 <;> by_cases h4 : s.2.2.1 > 4096 <;> by_cases h5 : s.2.2.2.1 < 1 <;> by_cases h6 : s.2.2.2.1 > 4096 <;>
      simp [h1, h1', h2, h3, h4, h5, h6]
theorem F17_e (s : Sp) : F17 (s, ()) = decide (may s) ∧ G17 (s, ()) = true := by
  have h := E17_eq s
  exact ⟨by show (E17 (s, ())).getD _ = _; rw [h]; rfl, by show (E17 (s, ())).isSome = true; rw [h]; rfl⟩
theorem E8_eq {s : Sp} (h : may s) : E8 (s, ()) = some ((0, ()), or_ s []) := by
  show S8 F17 G17 s = _
  unfold S8
  rw [(F17_e s).1, (F17_e s).2, decide_eq_true h]; rfl
theorem E8n_eq {s : Sp} (h : ¬ may s) : E8n (s, ()) = some (1, ()) := by
  show S8n F17 G17 s = _
  unfold S8n
  rw [(F17_e s).1, (F17_e s).2, decide_eq_false h]; rfl
/-! ## The methods' answers where the law calls them -/
theorem F9_e {s : Sp} {q : List (List UInt8)} {v : List UInt8} {f : Int} (hq : q.length ≤ 4096) (hm : 1 ≤ s.2.2.2.1) : F9 (s, ((q, ()), ())) (v, f, ()) = (psh s q v f).1 ∧ H9 (s, ((q, ()), ())) (v, f, ()) = ob s (psh s q v f).2 ∧ G9 (s, ((q, ()), ())) (v, f, ()) = true := by
  have h := E9_eq (s := s) (v := v) (f := f) hq hm
  refine ⟨?_, ?_, by show (E9 (ob s q) (v, f, ())).isSome = true; rw [h]; rfl⟩
  · show ((E9 (ob s q) (v, f, ())).getD _).1 = _; rw [h]; rfl
  · show ((E9 (ob s q) (v, f, ())).getD _).2 = _; rw [h]; rfl
theorem F10_e {s : Sp} {q : List (List UInt8)} {v : List UInt8} {f : Int} (hq : q.length ≤ 4096) (hm : 1 ≤ s.2.2.2.1) : F10 (s, (q, ())) (v, f, ()) = (psh s q v f).1 ∧ H10 (s, (q, ())) (v, f, ()) = or_ s (psh s q v f).2 ∧ G10 (s, (q, ())) (v, f, ()) = true := by
  have h := E10_eq (s := s) (v := v) (f := f) hq hm
  refine ⟨?_, ?_, by show (E10 (or_ s q) (v, f, ())).isSome = true; rw [h]; rfl⟩
  · show ((E10 (or_ s q) (v, f, ())).getD _).1 = _; rw [h]; rfl
  · show ((E10 (or_ s q) (v, f, ())).getD _).2 = _; rw [h]; rfl
theorem F11_e {s : Sp} {q : List (List UInt8)} (hq : q.length ≤ 4096) : F11 (s, ((q, ()), ())) () = pk s q ∧ H11 (s, ((q, ()), ())) () = ob s (pop s q) ∧ G11 (s, ((q, ()), ())) () = true := by
  have h := E11_eq (s := s) hq
  refine ⟨?_, ?_, by show (E11 (ob s q) ()).isSome = true; rw [h]; rfl⟩
  · show ((E11 (ob s q) ()).getD _).1 = _; rw [h]; rfl
  · show ((E11 (ob s q) ()).getD _).2 = _; rw [h]; rfl
theorem F12_e {s : Sp} {q : List (List UInt8)} (hq : q.length ≤ 4096) : F12 (s, (q, ())) () = pk s q ∧ H12 (s, (q, ())) () = or_ s (pop s q) ∧ G12 (s, (q, ())) () = true := by
  have h := E12_eq (s := s) hq
  refine ⟨?_, ?_, by show (E12 (or_ s q) ()).isSome = true; rw [h]; rfl⟩
  · show ((E12 (or_ s q) ()).getD _).1 = _; rw [h]; rfl
  · show ((E12 (or_ s q) ()).getD _).2 = _; rw [h]; rfl
theorem F15_e {s : Sp} {q : List (List UInt8)} : F15 (s, ((q, ()), ())) () = ((q.length : Nat) : Int) ∧ G15 (s, ((q, ()), ())) () = true := by
  have h := E15_eq (s := s) (q := q)
  exact ⟨by show (E15 (ob s q) ()).getD _ = _; rw [h]; rfl, by show (E15 (ob s q) ()).isSome = true; rw [h]; rfl⟩
theorem cut_le {q : List (List UInt8)} {k : Nat} : (cut q k).length ≤ q.length := by unfold cut; simp; omega
theorem pop_le {s : Sp} {q : List (List UInt8)} : (pop s q).length ≤ q.length := by unfold pop; cases decide (q.length = 0); exact cut_le; exact Nat.le_refl _
theorem psh_le {s : Sp} {q : List (List UInt8)} {v : List UInt8} {f : Int} (hq : ((q.length : Nat) : Int) ≤ s.2.2.2.1) (hm : 1 ≤ s.2.2.2.1) : (((psh s q v f).2.length : Nat) : Int) ≤ s.2.2.2.1 := by
  unfold psh
  cases okp s v f
  · exact hq
  · by_cases hM : ((q.length : Nat) : Int) = s.2.2.2.1
    · rw [decide_eq_true hM]
      cases decide (f = 0)
      · have := cut_len (q := q) (k := 0) (by omega)
        show (((cut q 0 ++ [v]).length : Nat) : Int) ≤ _
        rw [List.length_append]
        show (((cut q 0).length + 1 : Nat) : Int) ≤ _
        omega
      · exact hq
    · rw [decide_eq_false hM]
      show (((q ++ [v]).length : Nat) : Int) ≤ _
      rw [List.length_append]
      show ((q.length + 1 : Nat) : Int) ≤ _
      omega
end Go.Proofs
