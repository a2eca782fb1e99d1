import Derived.Test.YtibiflonpfehiaaI
import Derived.Test.YtibiflonpfehiaaGc
namespace Go.Proofs
open Go.GX
set_option linter.unusedVariables false
set_option linter.unusedSimpArgs false
abbrev In := Int × Int × Int × Int × Int × Unit
abbrev z0 : In := (0, 0, 0, 0, 0, ())
theorem bifS {α : Type} {c : Bool} {a b : Option α} (ha : a.isSome = true) (hb : b.isSome = true) : (bif c then a else b).isSome = true := by cases c <;> assumption
theorem G23_t (i : In) : G23 (i, ()) = true := rfl
theorem F23_e (i : In) : F23 (i, ()) = decide (i.1 = 24) := rfl
theorem G28_t (i : In) : G28 (i, ()) = true := rfl
theorem G32_t (i : In) : G32 (i, ()) = true := by
  show (S32 i).isSome = true
  unfold S32
  repeat (first | exact rfl | apply bifS)
theorem G27_t (i : In) : G27 (i, ()) = true := by
  show (S27 i).isSome = true
  unfold S27
  repeat (first | exact rfl | apply bifS)
theorem G29_t (i : In) : G29 (i, ()) = true := by
  show (S29 F28 G28 F32 G32 i).isSome = true
  unfold S29
  simp only [G28_t, G32_t]
  repeat (first | exact rfl | apply bifS)
theorem iand24 (a : Int) : 0 ≤ iand .i64 a 24 ∧ iand .i64 a 24 ≤ 24 := by
  unfold iand
  have h : (BitVec.ofInt (IntKind.bits .i64) a &&& BitVec.ofInt (IntKind.bits .i64) 24).toNat ≤ 24 := by
    rw [BitVec.toNat_and]
    exact Nat.le_trans Nat.and_le_right (by decide)
  rw [wi64 (by omega)]
  omega
theorem G30_t (i : In) : G30 (i, ()) = true := by
  show (S30 F28 G28 i).isSome = true
  unfold S30
  have h := iand24 i.1
  have h2 : 0 ≤ Int.tdiv (iand .i64 i.1 24) 8 := Int.tdiv_nonneg h.1 (by decide)
  have h3 : Int.tdiv (iand .i64 i.1 24) 8 ≤ 24 := by rw [Int.tdiv_eq_ediv_of_nonneg h.1]; omega
  rw [wi64 (a := Int.tdiv (iand .i64 i.1 24) 8) (by omega), decide_eq_true h2]
  simp only [G28_t]
  repeat (first | exact rfl | apply bifS)
/-! ## Is a number among some? -/
theorem V35_in {l : List Int} {x : Int} {i : Nat} (hi : i < l.length) (hl : l.length ≤ maxLen) : V35_0 (l, x, (l.length : Int), (i : Int), ()) = some (if x = l.getD i 0 then .inr (.inr ((i : Int), ())) else .inl (l, x, (l.length : Int), ((i + 1 : Nat) : Int), ())) := by
  unfold V35_0 R35_0
  dsimp only
  have hm : maxLen = 9223372036854775807 := rfl
  rw [show Int.toNat (i : Int) = i by omega, wi64 (a := (i : Int) + 1) (by omega)]
  refine (bif_t (decide_eq_true (by omega))).trans ?_
  by_cases h : x = l.getD i 0
  · rw [if_pos h]
    refine (bif_t (decide_eq_true h)).trans ((bif_t ?_).trans rfl)
    simp only [tt_eq, Bool.and_eq_true, decide_eq_true_eq, true_and, and_true]; omega
  · rw [if_neg h]
    refine (bif_f (decide_eq_false h)).trans ((bif_t ?_).trans rfl)
    simp only [tt_eq, Bool.and_eq_true, decide_eq_true_eq, true_and, and_true]; omega
theorem V35_end {l : List Int} {x : Int} : V35_0 (l, x, (l.length : Int), (l.length : Int), ()) = some (.inr (.inl ())) := by
  unfold V35_0 R35_0
  exact bif_f (decide_eq_false (by dsimp only; omega))
theorem G35_t (l : List Int) (x : Int) (hl : l.length ≤ maxLen) : G35 (l, x, ()) = true := by
  show (S35 W35_0 Q35_0 l x).isSome = true
  unfold S35
  have e2 : Q35_0 (l, x, (l.length : Int), 0, ()) = true := by
    rcases first_bad (fun i => !decide (x = l.getD i 0)) l.length with h | ⟨j, h1, h2, h3⟩
    · exact whK_of (hd := hd35_0) (ys := ys35_0) ((wh_steps (f := V35_0) (fun i => (l, x, (l.length : Int), (i : Int), ())) l.length (fun i hi => by
        have := h i hi
        rw [V35_in hi hl, if_neg (by simpa using this)])).trans (wh_stop V35_end))
    · exact whK_of (hd := hd35_0) (ys := ys35_0) ((wh_steps (f := V35_0) (fun i => (l, x, (l.length : Int), (i : Int), ())) j (fun i hi => by
        have := h2 i hi
        rw [V35_in (by omega) hl, if_neg (by simpa using this)])).trans (wh_stop (by rw [V35_in h1 hl, if_pos (by simpa using h3)])))
  rw [e2]
  repeat (first | exact rfl | apply bifS)
theorem G24_t (l : List Int) (x : Int) (hl : l.length ≤ maxLen) : G24 (l, x, ()) = true := by
  show (S24 F35 G35 l x).isSome = true
  unfold S24
  rw [G35_t l x hl]; rfl
theorem G31_t (x : Int) : G31 (x, ()) = true := by
  show (S31 F24 G24 x).isSome = true
  unfold S31
  rw [G24_t _ x (by decide)]; rfl
theorem G17_t (i : In) : G17 (i, ()) = true := by
  show (S17 F23 G23 F27 G27 F28 G28 F29 G29 F30 G30 F31 G31 F32 G32 i).isSome = true
  unfold S17
  simp only [G23_t, G27_t, G28_t, G29_t, G30_t, G31_t, G32_t]
  repeat (first | exact rfl | apply bifS)
theorem G19_t (i : In) : G19 (i, ()) = true := by
  show (S19 F28 G28 i).isSome = true
  unfold S19
  simp only [G28_t]
  repeat (first | exact rfl | apply bifS)
/-! ## Instructions -/
noncomputable def one (i : In) : Bool := F17 (i, ())
noncomputable def jmp (i : In) : Bool := F19 (i, ())
def wd (i : In) : Bool := decide (i.1 = 24)
def lng (i : In) : Nat := bif wd i then 2 else 1
theorem F22_e (i : In) : F22 (i, ()) = (lng i : Int) ∧ G22 (i, ()) = true := by
  have : E22 (i, ()) = some (lng i : Int) := by
    show S22 F23 G23 i = _
    unfold S22
    rw [F23_e, G23_t]
    unfold lng wd
    cases decide (i.1 = 24) <;> rfl
  exact ofE this
theorem lng_pos (i : In) : 1 ≤ lng i ∧ lng i ≤ 2 := by unfold lng; cases wd i <;> decide
/-- the second slot of a wide one -/
def sec2 (i j : In) : Bool :=
  (decide (j.1 = 0) && (decide (j.2.1 = 0) && (decide (j.2.2.1 = 0) && tt 1 (decide (j.2.2.2.1 = 0))))) && (decide (IntKind.wrap .i64 (IntKind.wrap .i32 j.2.2.2.2.1) = j.2.2.2.2.1) && (decide (i.2.2.1 = 0) || decide (j.2.2.2.2.1 = 0)))
noncomputable def okAt (l : List In) (k : Nat) : Bool := one (l.getD k z0) && (!wd (l.getD k z0) || (decide (k + 1 < l.length) && sec2 (l.getD k z0) (l.getD (k + 1) z0)))
end Go.Proofs
