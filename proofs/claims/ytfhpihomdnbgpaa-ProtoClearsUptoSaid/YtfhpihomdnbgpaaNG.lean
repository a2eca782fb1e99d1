import Derived.Test.YtfhpihomdnbgpaaNF
namespace Go.Proofs
open Go.GX
set_option linter.unusedVariables false
set_option linter.unusedSimpArgs false
theorem ex_bif {α : Type} {b : Bool} {x y : Option α} (hx : ∃ v, x = some v) (hy : ∃ v, y = some v) : ∃ v, (bif b then x else y) = some v := by cases b <;> assumption
theorem some_of {α : Type} {o : Option α} (h : ∃ v, o = some v) : o.isSome = true := by obtain ⟨v, h⟩ := h; rw [h]; rfl
abbrev Sp := Int × KD1
theorem G50_t (x : Int) : G50 (x, ()) = true := rfl
theorem G28_t (m : Sp) (n : Int) : G28 (m, n, ()) = true := by
 apply some_of
 show ∃ v, S28 F50 G50 m n = some v
 unfold S28
 simp only [G50_t, tt_eq, cond_true]
 repeat' (first | exact ⟨_, rfl⟩ | apply ex_bif)
theorem G29_t (m : Sp) : G29 (m, ()) = true := by
 apply some_of
 show ∃ v, S29 m = some v
 unfold S29
 repeat' (first | exact ⟨_, rfl⟩ | apply ex_bif)
theorem G30_t (m : Sp) : G30 (m, ()) = true := by
 apply some_of
 show ∃ v, S30 m = some v
 unfold S30
 repeat' (first | exact ⟨_, rfl⟩ | apply ex_bif)
theorem G31_t (m : Sp) : G31 (m, ()) = true := by
 apply some_of
 show ∃ v, S31 m = some v
 unfold S31
 repeat' (first | exact ⟨_, rfl⟩ | apply ex_bif)
theorem G32_t (m : Sp) : G32 (m, ()) = true := by
 apply some_of
 show ∃ v, S32 m = some v
 unfold S32
 repeat' (first | exact ⟨_, rfl⟩ | apply ex_bif)
theorem G33_t (m : Sp) : G33 (m, ()) = true := by
 apply some_of
 show ∃ v, S33 m = some v
 unfold S33
 repeat' (first | exact ⟨_, rfl⟩ | apply ex_bif)
theorem G13_t (m : Sp) : G13 (m, ()) = true := by
 apply some_of
 show ∃ v, S13 F28 G28 F29 G29 F30 G30 F31 G31 F32 G32 F33 G33 m = some v
 unfold S13
 simp only [G28_t, G29_t, G30_t, G31_t, G32_t, G33_t, tt_eq, Bool.and_true, cond_true]
 repeat' (first | exact ⟨_, rfl⟩ | apply ex_bif)
theorem G7_t (l : List Sp) (hl : l.length ≤ 1048576) : G7 (l, ()) = true := by
 obtain ⟨g, hw, _⟩ := lp_run (V := V7_0) (β := Unit ⊕ (Bool × Unit)) (st := fun i => (l, (i : Int), ())) (bad := Sum.inr (false, ())) (good := Sum.inl ()) (N := l.length) (Q := fun _ => True)
  (by
   intro i hi
   refine ⟨decide (F13 (l.getD i (0, (0, (0, (0, ())))), ()) = 0), ?_, fun _ => trivial⟩
   show R7_0 F13 G13 _ _ l (i : Int) = _
   unfold R7_0
   have e1 : IntKind.wrap .i64 ((i : Int) + 1) = ((i + 1 : Nat) : Int) := by rw [wi64 (by omega)]; omega
   rw [e1, show Int.toNat (i : Int) = i by omega, decide_eq_true (show (i : Int) < ((l.length : Nat) : Int) by omega), decide_eq_true (show 0 ≤ (i : Int) by omega), G13_t]
   cases decide (F13 (l.getD i (0, (0, (0, (0, ())))), ()) = 0) <;> rfl)
  (by
   show R7_0 F13 G13 _ _ l ((l.length : Nat) : Int) = _
   unfold R7_0
   rw [decide_eq_false (Int.lt_irrefl _)]; rfl) l.length 0 (by omega)
 have k0 : Q7_0 (l, 0, ()) = true := whK_of hw
 have w0 : W7_0 (l, 0, ()) = _ := whV_of hw
 apply some_of
 show ∃ v, S7 F13 G13 W7_0 Q7_0 l = some v
 unfold S7
 rw [w0, k0]
 cases g <;> exact ⟨_, rfl⟩
theorem F36_e (k a : List Int) : F36 (k, a, ()) = ((a, (k, ())), (true, ())) ∧ G36 (k, a, ()) = true := ⟨rfl, rfl⟩
def AL : List (List Int) := [[0, 1], [0, 1, 2, 4], [], [5, 0, 4], [5, 4], [0, 2, 4], [0, 3], [0, 7, 6, 4], [0, 6, 4], [8, 4]]
def KL : List (List Int) := [[1, 2, 6, 9, 11], [1, 9, 11], [], [3], [22, 23], [27]]
def Fnd (o : Option (KD22 × (Bool × Unit))) : Prop := ∃ a k : List Int, ∃ b : Bool, o = some ((a, (k, ())), (b, ())) ∧ a ∈ AL ∧ k ∈ KL ∧ (b = false → a = [])
theorem Fnd_bif {b : Bool} {x y : Option (KD22 × (Bool × Unit))} (hx : Fnd x) (hy : Fnd y) : Fnd (bif b then x else y) := by cases b <;> assumption
theorem E16_t (n : Int) : Fnd (E16 (n, ())) := by
 show Fnd (S16 F36 G36 n)
 unfold S16
 simp only [(F36_e _ _).1, (F36_e _ _).2, tt_eq, cond_true]
 repeat' (first | exact ⟨_, _, _, rfl, by decide, by decide, by decide⟩ | apply Fnd_bif)
end Go.Proofs
