import Derived.Test.YtnbpakmcibjmaaaIQ
import Derived.Test.YtnbpakmcibjmaaaP
namespace Go.Proofs
open Go.GX
set_option linter.unusedVariables false
set_option linter.unusedSimpArgs false
/-! ## QueueOrder: what is told is what was put in -/
@[reducible] def bs (l : List Int) (i : Nat) : List UInt8 := bytesOf (List.take 1 (List.drop i l))
theorem bs_len {l : List Int} {i : Nat} (h : i < l.length) : (bs l i).length = 1 := by
  unfold bs bytesOf
  rw [List.length_map, List.length_take, List.length_drop]; omega
def pre (l : List Int) (n : Nat) : List (List UInt8) := (List.range n).map (bs l)
theorem pre_len {l : List Int} {n : Nat} : (pre l n).length = n := by unfold pre; simp
theorem pre_succ {l : List Int} {n : Nat} : pre l (n + 1) = pre l n ++ [bs l n] := by unfold pre; rw [List.range_succ, List.map_append]; rfl
theorem pre_get {l : List Int} {n i : Nat} (h : i < n) : (pre l n).getD i [] = bs l i := by
  unfold pre
  simp [List.getD, h]
def sq (st : Bool) (M : Nat) : Sp := (bif st then 23 else 22, (0, (1, ((M : Int), ()))))
def Q (l : List Int) (M i : Nat) : List (List UInt8) := (pre l i).drop (i - M)
theorem Q_len {l : List Int} {M i : Nat} : (Q l M i).length = i - (i - M) := by unfold Q; rw [List.length_drop, pre_len]
theorem psh2 {st : Bool} {l : List Int} {M i : Nat} (hi : i < l.length) (hM : 1 ≤ M) : psh (sq st M) (Q l M i) (bs l i) 2 = (0, Q l M (i + 1)) := by
  have hb := bs_len hi
  have ho : okp (sq st M) (bs l i) 2 = true := by
    unfold okp
    rw [hb]; rfl
  have hl := Q_len (l := l) (M := M) (i := i)
  unfold psh
  rw [ho]
  by_cases h : i < M
  · rw [decide_eq_false (show ¬ (((Q l M i).length : Nat) : Int) = (sq st M).2.2.2.1 by show ¬ (((Q l M i).length : Nat) : Int) = (M : Int); omega)]
    have e1 : Q l M i = pre l i := by unfold Q; rw [show i - M = 0 by omega]; rfl
    have e2 : Q l M (i + 1) = pre l (i + 1) := by unfold Q; rw [show i + 1 - M = 0 by omega]; rfl
    rw [e1, e2, pre_succ]; rfl
  · rw [decide_eq_true (show (((Q l M i).length : Nat) : Int) = (sq st M).2.2.2.1 by show (((Q l M i).length : Nat) : Int) = (M : Int); omega)]
    have e1 : cut (Q l M i) 0 ++ [bs l i] = Q l M (i + 1) := by
      show (Q l M i).drop 1 ++ [bs l i] = _
      unfold Q
      rw [List.drop_drop, pre_succ, List.drop_append_of_le_length (by rw [pre_len]; omega), show i - M + 1 = i + 1 - M by omega]
    show (0, cut (Q l M i) 0 ++ [bs l i]) = _
    rw [e1]
abbrev A0 (l : List Int) (M : Nat) (st : Bool) (i : Nat) : ((List Int) × Int × Bool × Unit × Int × KDq1 × Unit) := (l, (M : Int), st, (), (i : Int), (sq st M, ((Q l M i, ()), ())), ())
theorem V4_step {l : List Int} {M : Nat} {st : Bool} {i : Nat} (hl : l.length ≤ 9223372036854775807) (hi : i < l.length) (hM : 1 ≤ M) (hM' : M ≤ 50) : V4_0 (A0 l M st i) = some (.inl (A0 l M st (i + 1))) := by
  have hq := Q_len (l := l) (M := M) (i := i)
  have hq' : (Q l M i).length ≤ 4096 := by omega
  have hq2 := Q_len (l := l) (M := M) (i := i + 1)
  have hm : 1 ≤ (sq st M).2.2.2.1 := by show (1 : Int) ≤ (M : Int); omega
  show R4_0 F7 H7 G7 F9 H9 G9 F11 H11 G11 F13 G13 F15 G15 F16 G16 _ _ _ _ _ _ _ _ _ _ _ _ _ _ l (M : Int) st () (i : Int) (sq st M, ((Q l M i, ()), ())) = _
  unfold R4_0
  dsimp only
  have e1 : IntKind.wrap .i64 ((i : Int) + 1) = ((i + 1 : Nat) : Int) := by rw [wi64 (by omega)]; omega
  have e2 : Int.toNat (((i + 1 : Nat) : Int) - (i : Int)) = 1 := by omega
  have e3 : Int.toNat (i : Int) = i := by omega
  have hi' : decide ((i : Int) < ((l.length : Nat) : Int)) = true := decide_eq_true (by omega)
  have hi0 : decide (0 ≤ (i : Int)) = true := decide_eq_true (by omega)
  have hi1 : decide (0 ≤ ((i + 1 : Nat) : Int)) = true := decide_eq_true (by omega)
  have hi2 : decide (((i + 1 : Nat) : Int) ≤ ((l.length : Nat) : Int)) = true := decide_eq_true (by omega)
  have hi3 : decide ((i : Int) ≤ ((i + 1 : Nat) : Int)) = true := decide_eq_true (by omega)
  have hg : decide ((((Q l M (i + 1)).length : Nat) : Int) > (M : Int)) = false := decide_eq_false (by omega)
  simp only [e1, e2, e3, put, le0, hi', hi0, hi1, hi2, hi3, F9_e hq' hm, psh2 hi hM, F15_e, hg, decide_true]
  rfl
theorem V4_stop {l : List Int} {M : Nat} {st : Bool} {i : Nat} (hi : l.length ≤ i) : V4_0 (A0 l M st i) = some (.inr (.inl (l, (M : Int), st, (), (sq st M, ((Q l M i, ()), ())), ()))) := by
  show R4_0 F7 H7 G7 F9 H9 G9 F11 H11 G11 F13 G13 F15 G15 F16 G16 _ _ _ _ _ _ _ _ _ _ _ _ _ _ l (M : Int) st () (i : Int) (sq st M, ((Q l M i, ()), ())) = _
  unfold R4_0
  dsimp only
  simp only [put, le0]
  rw [decide_eq_false (show ¬ (i : Int) < ((l.length : Nat) : Int) by omega)]
  rfl
theorem wh40 {l : List Int} {M : Nat} {st : Bool} (hl : l.length ≤ 9223372036854775807) (hM : 1 ≤ M) (hM' : M ≤ 50) : wh V4_0 (A0 l M st 0) = some (.inl (l, (M : Int), st, (), (sq st M, ((Q l M l.length, ()), ())), ())) := by
  rw [wh_steps (f := V4_0) (fun i => A0 l M st i) l.length (fun i hi => V4_step hl hi hM hM')]
  exact wh_stop (V4_stop (Nat.le_refl _))
/-! ### The second loop -/
def Z (st : Bool) (k : List Int) (i : Nat) : List (List UInt8) := bif st then pre k (k.length - i) else (pre k k.length).drop i
def at_ (st : Bool) (k : List Int) (i : Nat) : Nat := bif st then k.length - 1 - i else i
theorem Z_len {st : Bool} {k : List Int} {i : Nat} : (Z st k i).length = k.length - i := by
  unfold Z
  cases st
  · show ((pre k k.length).drop i).length = _; rw [List.length_drop, pre_len]
  · exact pre_len
theorem pkZ {st : Bool} {k : List Int} {M i : Nat} (hi : i < k.length) : pk (sq st M) (Z st k i) = (bs k (at_ st k i), 0, ()) := by
  have hl := Z_len (st := st) (k := k) (i := i)
  unfold pk
  rw [decide_eq_false (show ¬ (Z st k i).length = 0 by omega)]
  show ((Z st k i).getD (pl (sq st M) (Z st k i)) [], (0 : Int), ()) = _
  have e : (Z st k i).getD (pl (sq st M) (Z st k i)) [] = bs k (at_ st k i) := by
    cases st
    · have e : pl (sq false M) (Z false k i) = 0 := rfl
      rw [e]
      show ((pre k k.length).drop i).getD 0 [] = bs k i
      have h1 : i < (pre k k.length).length := by rw [pre_len]; exact hi
      have h2 : ((pre k k.length).drop i).getD 0 [] = (pre k k.length).getD i [] := by simp [List.getD, h1]
      rw [h2, pre_get hi]
    · have e : pl (sq true M) (Z true k i) = (Z true k i).length - 1 := rfl
      rw [e, hl]
      show (pre k (k.length - i)).getD (k.length - i - 1) [] = bs k (k.length - 1 - i)
      rw [pre_get (by omega), show k.length - i - 1 = k.length - 1 - i by omega]
  rw [e]
theorem popZ {st : Bool} {k : List Int} {M i : Nat} (hi : i < k.length) : pop (sq st M) (Z st k i) = Z st k (i + 1) := by
  have hl := Z_len (st := st) (k := k) (i := i)
  unfold pop
  rw [decide_eq_false (show ¬ (Z st k i).length = 0 by omega)]
  cases st
  · have e : pl (sq false M) (Z false k i) = 0 := rfl
    rw [e]
    show List.take 0 ((pre k k.length).drop i) ++ List.drop (0 + 1) ((pre k k.length).drop i) = (pre k k.length).drop (i + 1)
    rw [List.drop_drop]; rfl
  · have e : pl (sq true M) (Z true k i) = (Z true k i).length - 1 := rfl
    rw [e, hl]
    show List.take (k.length - i - 1) (pre k (k.length - i)) ++ List.drop (k.length - i - 1 + 1) (pre k (k.length - i)) = pre k (k.length - (i + 1))
    have h1 : k.length - i = (k.length - (i + 1)) + 1 := by omega
    rw [h1, pre_succ, show k.length - (i + 1) + 1 - 1 = k.length - (i + 1) by omega]
    rw [List.take_append_of_le_length (by rw [pre_len]; omega), List.take_of_length_le (by rw [pre_len]; omega), List.drop_of_length_le (by rw [List.length_append, pre_len]; exact Nat.le_refl _), List.append_nil]
abbrev J (st : Bool) (k : List Int) (M i : Nat) : (Bool × Unit × (List Int) × Int × Int × KDq2 × Unit) := (st, (), k, (i : Int), ((at_ st k i : Nat) : Int), (sq st M, ((Z st k i, ()), ())), ())
theorem at_lt {st : Bool} {k : List Int} {i : Nat} (hi : i < k.length) : at_ st k i < k.length := by unfold at_; cases st; exact hi; show k.length - 1 - i < k.length; omega
theorem V21 {st : Bool} {k : List Int} {M i : Nat} (hi : i < k.length) (hk : k.length ≤ 50) : V4_1000021 (J st k M i) = some (.inl (st, (), k, (i : Int), (sq st M, ((Z st k (i + 1), ()), ())), ())) := by
  have hl := Z_len (st := st) (k := k) (i := i)
  have hq' : (Z st k i).length ≤ 4096 := by omega
  have ha := at_lt (st := st) hi
  show R4_1000021 F7 H7 G7 F9 H9 G9 F11 H11 G11 F13 G13 F15 G15 F16 G16 _ _ _ _ _ _ _ _ _ _ _ _ _ _ st () k (i : Int) ((at_ st k i : Nat) : Int) (sq st M, ((Z st k i, ()), ())) = _
  unfold R4_1000021
  dsimp only
  have hpk := pkZ (M := M) (st := st) hi
  have hpop := popZ (M := M) (st := st) hi
  revert ha hpk
  generalize at_ st k i = j
  intro ha hpk
  have e1 : IntKind.wrap .i64 ((j : Int) + 1) = ((j + 1 : Nat) : Int) := by rw [wi64 (by omega)]; omega
  have e2 : Int.toNat (((j + 1 : Nat) : Int) - (j : Int)) = 1 := by omega
  have e3 : Int.toNat (j : Int) = j := by omega
  have hi0 : decide (0 ≤ (j : Int)) = true := decide_eq_true (by omega)
  have hi1 : decide (0 ≤ ((j + 1 : Nat) : Int)) = true := decide_eq_true (by omega)
  have hi2 : decide (((j + 1 : Nat) : Int) ≤ ((k.length : Nat) : Int)) = true := decide_eq_true (by omega)
  have hi3 : decide ((j : Int) ≤ ((j + 1 : Nat) : Int)) = true := decide_eq_true (by omega)
  simp only [e1, e2, e3, put, le0, hi0, hi1, hi2, hi3, F11_e hq', F13_e hq', hpk, hpop, beq_self_eq_true, decide_true]
  rfl
theorem W21 {st : Bool} {k : List Int} {M i : Nat} (hi : i < k.length) (hk : k.length ≤ 50) : W4_1000021 (J st k M i) = .inl (st, (), k, (i : Int), (sq st M, ((Z st k (i + 1), ()), ())), ()) ∧ Q4_1000021 (J st k M i) = true := by
  have h := V21 (M := M) (st := st) hi hk
  refine ⟨?_, ?_⟩
  · show (V4_1000021 (J st k M i)).getD _ = _; rw [h]; rfl
  · show (V4_1000021 (J st k M i)).isSome = true; rw [h]; rfl
abbrev B0 (st : Bool) (k : List Int) (M i : Nat) : (Bool × Unit × (List Int) × Int × KDq3 × Unit) := (st, (), k, (i : Int), (sq st M, ((Z st k i, ()), ())), ())
theorem V42_step {st : Bool} {k : List Int} {M i : Nat} (hi : i < k.length) (hk : k.length ≤ 50) : V4_2 (B0 st k M i) = some (.inl (B0 st k M (i + 1))) := by
  have hw := W21 (M := M) (st := st) hi hk
  show R4_2 F7 H7 G7 F9 H9 G9 F11 H11 G11 F13 G13 F15 G15 F16 G16 _ _ W4_1000021 Q4_1000021 _ _ _ _ _ _ _ _ _ _ st () k (i : Int) (sq st M, ((Z st k i, ()), ())) = _
  unfold R4_2
  dsimp only
  have e1 : IntKind.wrap .i64 ((i : Int) + 1) = ((i + 1 : Nat) : Int) := by rw [wi64 (by omega)]; omega
  have hi' : decide ((i : Int) < ((k.length : Nat) : Int)) = true := decide_eq_true (by omega)
  cases st
  · have hw1 : W4_1000021 (false, (), k, (i : Int), (i : Int), (sq false M, ((Z false k i, ()), ())), ()) = _ := hw.1
    have hw2 : Q4_1000021 (false, (), k, (i : Int), (i : Int), (sq false M, ((Z false k i, ()), ())), ()) = true := hw.2
    simp only [put, le0, hi', hw1, hw2, isL, getL, e1]
    rfl
  · have e2' : IntKind.wrap .i64 (((k.length : Nat) : Int) - 1) = ((k.length : Nat) : Int) - 1 := wi64 (by omega)
    have e2 : IntKind.wrap .i64 (IntKind.wrap .i64 (((k.length : Nat) : Int) - 1) - (i : Int)) = ((k.length - 1 - i : Nat) : Int) := by rw [e2', wi64 (by omega)]; omega
    have hw1 : W4_1000021 (true, (), k, (i : Int), ((k.length - 1 - i : Nat) : Int), (sq true M, ((Z true k i, ()), ())), ()) = _ := hw.1
    have hw2 : Q4_1000021 (true, (), k, (i : Int), ((k.length - 1 - i : Nat) : Int), (sq true M, ((Z true k i, ()), ())), ()) = true := hw.2
    simp only [put, le0, hi', e2, hw1, hw2, isL, getL, e1]
    rfl
theorem Z_end {st : Bool} {k : List Int} : Z st k k.length = [] := by
  apply List.eq_nil_of_length_eq_zero
  rw [Z_len]; omega
theorem V42_stop {st : Bool} {k : List Int} {M : Nat} : V4_2 (B0 st k M k.length) = some (.inr (.inl ((), (sq st M, (([], ()), ())), ()))) := by
  show R4_2 F7 H7 G7 F9 H9 G9 F11 H11 G11 F13 G13 F15 G15 F16 G16 _ _ W4_1000021 Q4_1000021 _ _ _ _ _ _ _ _ _ _ st () k ((k.length : Nat) : Int) (sq st M, ((Z st k k.length, ()), ())) = _
  rw [Z_end]
  unfold R4_2
  dsimp only
  simp only [put, le0]
  rw [decide_eq_false (show ¬ ((k.length : Nat) : Int) < ((k.length : Nat) : Int) by omega)]
  rfl
theorem wh42 {st : Bool} {k : List Int} {M : Nat} (hk : k.length ≤ 50) : wh V4_2 (B0 st k M 0) = some (.inl ((), (sq st M, (([], ()), ())), ())) := by
  rw [wh_steps (f := V4_2) (fun i => B0 st k M i) k.length (fun i hi => V42_step hi hk)]
  exact wh_stop V42_stop
/-! ### Behind the loops -/
theorem W25 {st : Bool} {M : Nat} : W4_1000025 ((), (sq st M, (([], ()), ())), ()) = (true, ()) ∧ Q4_1000025 ((), (sq st M, (([], ()), ())), ()) = true := by
  have h : V4_1000025 ((), (sq st M, (([], ()), ())), ()) = some (true, ()) := by
    show R4_1000025 F7 H7 G7 F9 H9 G9 F11 H11 G11 F13 G13 F15 G15 F16 G16 _ _ _ _ _ _ _ _ _ _ _ _ _ _ () (sq st M, (([], ()), ())) = _
    unfold R4_1000025
    dsimp only
    have a16 : F16 () = true ∧ G16 () = true := ⟨rfl, rfl⟩
    have hq : ([] : List (List UInt8)).length ≤ 4096 := by show 0 ≤ 4096; omega
    have hpk : pk (sq st M) [] = ([], 4, ()) := rfl
    have hpop : pop (sq st M) [] = [] := rfl
    simp only [put, le0, F11_e hq, F15_e, hpk, hpop, a16, decide_true]
    rfl
  exact ⟨by show (V4_1000025 ((), (sq st M, (([], ()), ())), ())).getD (false, ()) = _; rw [h]; rfl, by show (V4_1000025 ((), (sq st M, (([], ()), ())), ())).isSome = true; rw [h]; rfl⟩
theorem QZ {st : Bool} {l : List Int} {M : Nat} : Q l M l.length = Z st (l.drop (l.length - M)) 0 := by
  have h : Q l M l.length = pre (l.drop (l.length - M)) (l.drop (l.length - M)).length := by
    unfold Q pre
    apply List.ext_getElem
    · simp
    · intro i h1 h2
      have h3 : l.length - M + i < l.length := by simp at h2; omega
      simp [bs, List.getElem_drop, List.drop_drop]
  rw [h]
  unfold Z
  cases st <;> rfl
theorem W14 {st : Bool} {l : List Int} {M : Nat} (hl : l.length ≤ 9223372036854775807) (hM : 1 ≤ M) (hM' : M ≤ 50) : W4_1000014 (l, (M : Int), st, (), (sq st M, ((Q l M l.length, ()), ())), ()) = (true, ()) ∧ Q4_1000014 (l, (M : Int), st, (), (sq st M, ((Q l M l.length, ()), ())), ()) = true := by
  have hk : (l.drop (l.length - M)).length ≤ 50 := by rw [List.length_drop]; omega
  have h2 := wh42 (st := st) (M := M) hk
  have w2 : W4_2 (st, (), l.drop (l.length - M), 0, (sq st M, ((Z st (l.drop (l.length - M)) 0, ()), ())), ()) = .inl ((), (sq st M, (([], ()), ())), ()) := whV_of h2
  have k2 : Q4_2 (st, (), l.drop (l.length - M), 0, (sq st M, ((Z st (l.drop (l.length - M)) 0, ()), ())), ()) = true := whK_of h2
  have h : V4_1000014 (l, (M : Int), st, (), (sq st M, ((Q l M l.length, ()), ())), ()) = some (true, ()) := by
    show R4_1000014 F7 H7 G7 F9 H9 G9 F11 H11 G11 F13 G13 F15 G15 F16 G16 _ _ _ _ W4_2 Q4_2 W4_1000025 Q4_1000025 _ _ _ _ _ _ l (M : Int) st () (sq st M, ((Q l M l.length, ()), ())) = _
    unfold R4_1000014
    dsimp only
    have e1 : (if IntKind.wrap .i64 (((l.length : Nat) : Int) - (M : Int)) > 0 then IntKind.wrap .i64 (((l.length : Nat) : Int) - (M : Int)) else 0) = ((l.length - M : Nat) : Int) := by
      rw [wi64 (by omega)]
      split <;> omega
    have e2 : Int.toNat (((l.length : Nat) : Int) - ((l.length - M : Nat) : Int)) = l.length - (l.length - M) := by omega
    have e3 : Int.toNat ((l.length - M : Nat) : Int) = l.length - M := by omega
    have e4 : List.take (l.length - (l.length - M)) (List.drop (l.length - M) l) = l.drop (l.length - M) := List.take_of_length_le (by rw [List.length_drop]; omega)
    have h0 : decide (0 ≤ ((l.length : Nat) : Int)) = true := decide_eq_true (by omega)
    have h1 : decide (((l.length : Nat) : Int) ≤ ((l.length : Nat) : Int)) = true := decide_eq_true (by omega)
    have h2 : decide (0 ≤ ((l.length - M : Nat) : Int)) = true := decide_eq_true (by omega)
    have h3 : decide (((l.length - M : Nat) : Int) ≤ ((l.length : Nat) : Int)) = true := decide_eq_true (by omega)
    rw [QZ (st := st)]
    simp only [put, le0, e1, e2, e3, e4, w2, k2, isL, getL, W25, h0, h1, h2, h3]
    rfl
  exact ⟨by show (V4_1000014 (l, (M : Int), st, (), (sq st M, ((Q l M l.length, ()), ())), ())).getD _ = _; rw [h]; rfl, by show (V4_1000014 (l, (M : Int), st, (), (sq st M, ((Q l M l.length, ()), ())), ())).isSome = true; rw [h]; rfl⟩
theorem W9 {st : Bool} {l : List Int} {M : Nat} (hl : l.length ≤ 9223372036854775807) (hM : 1 ≤ M) (hM' : M ≤ 50) : W4_1000009 (l, (M : Int), st, (), (sq st M, (([], ()), ())), ()) = (true, ()) ∧ Q4_1000009 (l, (M : Int), st, (), (sq st M, (([], ()), ())), ()) = true := by
  have h0 := wh40 (st := st) hl hM hM'
  have e0 : Q l M 0 = [] := by apply List.eq_nil_of_length_eq_zero; rw [Q_len]; omega
  have w0 : W4_0 (l, (M : Int), st, (), 0, (sq st M, (([], ()), ())), ()) = .inl (l, (M : Int), st, (), (sq st M, ((Q l M l.length, ()), ())), ()) := by
    have w : W4_0 (A0 l M st 0) = _ := whV_of h0
    rw [← e0]; exact w
  have k0 : Q4_0 (l, (M : Int), st, (), 0, (sq st M, (([], ()), ())), ()) = true := by
    have w : Q4_0 (A0 l M st 0) = true := whK_of h0
    rw [← e0]; exact w
  have h14 := W14 (st := st) hl hM hM'
  have p0 : sec [] ([] : List (List UInt8)) 0 ([] : List (List UInt8)).length = [] := rfl
  have h : V4_1000009 (l, (M : Int), st, (), (sq st M, (([], ()), ())), ()) = some (true, ()) := by
    show R4_1000009 F7 H7 G7 F9 H9 G9 F11 H11 G11 F13 G13 F15 G15 F16 G16 W4_0 Q4_0 _ _ _ _ _ _ W4_1000014 Q4_1000014 _ _ _ _ l (M : Int) st () (sq st M, (([], ()), ())) = _
    unfold R4_1000009
    dsimp only
    simp only [put, le0, p0, w0, k0, isL, getL, h14]
    rfl
  exact ⟨by show (V4_1000009 (l, (M : Int), st, (), (sq st M, (([], ()), ())), ())).getD _ = _; rw [h]; rfl, by show (V4_1000009 (l, (M : Int), st, (), (sq st M, (([], ()), ())), ())).isSome = true; rw [h]; rfl⟩
theorem maysq {st : Bool} {M : Nat} (hM : 1 ≤ M) (hM' : M ≤ 50) : may (sq st M) := by
  unfold may sq
  refine ⟨by cases st; exact .inl rfl; exact .inr rfl, rfl, ?_, ?_, ?_, ?_⟩
  · show ¬ (1 : Int) < 1; decide
  · show ¬ (1 : Int) > 4096; decide
  · show ¬ (M : Int) < 1; omega
  · show ¬ (M : Int) > 4096; omega
theorem W6 {st : Bool} {l : List Int} {M : Nat} (hl : l.length ≤ 9223372036854775807) (hM : 1 ≤ M) (hM' : M ≤ 50) : W4_1000006 (l, (M : Int), st, (bif st then 23 else 22), ()) = (true, ()) ∧ Q4_1000006 (l, (M : Int), st, (bif st then 23 else 22), ()) = true := by
  have a7 : F7 (((bif st then 23 else 22), (0, (1, ((M : Int), ())))), ()) = (0, ()) ∧ H7 (((bif st then 23 else 22), (0, (1, ((M : Int), ())))), ()) = ob (sq st M) [] ∧ G7 (((bif st then 23 else 22), (0, (1, ((M : Int), ())))), ()) = true := by
    have e := E7_eq (maysq (st := st) hM hM')
    refine ⟨?_, ?_, by show (E7 (sq st M, ())).isSome = true; rw [e]; rfl⟩
    · show ((E7 (sq st M, ())).getD _).1 = _; rw [e]; rfl
    · show ((E7 (sq st M, ())).getD _).2 = _; rw [e]; rfl
  have p0 : sec [] ([] : List (List UInt8)) 0 ([] : List (List UInt8)).length = [] := rfl
  have h9 := W9 (st := st) hl hM hM'
  have h : V4_1000006 (l, (M : Int), st, (bif st then 23 else 22), ()) = some (true, ()) := by
    show R4_1000006 F7 H7 G7 F9 H9 G9 F11 H11 G11 F13 G13 F15 G15 F16 G16 _ _ _ _ _ _ _ _ _ _ W4_1000009 Q4_1000009 _ _ l (M : Int) st (bif st then 23 else 22) = _
    unfold R4_1000006
    simp only [put, le0, p0, a7, h9, decide_true]
    rfl
  exact ⟨by show (V4_1000006 (l, (M : Int), st, (bif st then 23 else 22), ())).getD _ = _; rw [h]; rfl, by show (V4_1000006 (l, (M : Int), st, (bif st then 23 else 22), ())).isSome = true; rw [h]; rfl⟩
theorem E4_eq {l : List Int} {m : Int} {st : Bool} (hl : l.length ≤ 9223372036854775807) : E4 (l, m, st, ()) = some true := by
  obtain ⟨M, h1, h2, h3⟩ : ∃ M : Nat, 1 ≤ M ∧ M ≤ 50 ∧ (if (if 50 < m then 50 else m) > 1 then (if 50 < m then 50 else m) else 1) = (M : Int) := by
    refine ⟨(if (if 50 < m then 50 else m) > 1 then (if 50 < m then 50 else m) else 1).toNat, ?_, ?_, ?_⟩ <;> (repeat' split) <;> omega
  have h6 := W6 (st := st) hl h1 h2
  show S4 F7 H7 G7 F9 H9 G9 F11 H11 G11 F13 G13 F15 G15 F16 G16 W4_0 Q4_0 W4_1000021 Q4_1000021 W4_2 Q4_2 W4_1000025 Q4_1000025 W4_1000014 Q4_1000014 W4_1000009 Q4_1000009 W4_1000006 Q4_1000006 l m st = _
  unfold S4
  rw [h3]
  cases st
  · have a : W4_1000006 (l, (M : Int), false, 22, ()) = (true, ()) := h6.1
    have b : Q4_1000006 (l, (M : Int), false, 22, ()) = true := h6.2
    rw [a, b]; rfl
  · have a : W4_1000006 (l, (M : Int), true, 23, ()) = (true, ()) := h6.1
    have b : Q4_1000006 (l, (M : Int), true, 23, ()) = true := h6.2
    rw [a, b]; rfl
/-! ## The law -/
theorem queueOrder_pure (x0 : List Int) (w0 : WFv (.vsl (.int .u8)) x0) (x1 : Int) (w1 : WFv (.int .i64) x1) (x2 : Bool) (w2 : WFv .bool x2) :
    PureOK Try.prog 4 [⟨.vsl (.int .u8), x0⟩, ⟨.int .i64, x1⟩, ⟨.bool, x2⟩] ⟨.bool, true⟩ := by
  have hl : x0.length ≤ 9223372036854775807 := w0.1
  have h : F4 (x0, x1, x2, ()) = true ∧ G4 (x0, x1, x2, ()) = true := ofE (E4_eq hl)
  have := p4 (x0, x1, x2, ()) h.2
  rw [h.1] at this
  exact this
end Go.Proofs
