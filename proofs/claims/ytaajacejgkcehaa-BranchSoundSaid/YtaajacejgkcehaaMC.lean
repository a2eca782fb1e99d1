import Derived.Test.YtaajacejgkcehaaMB
namespace Go.Proofs
open Go.GX
set_option linter.unusedVariables false
set_option linter.unusedSimpArgs false
/-! ## They are not the same -/
def two2 : Option Sc → Option Sc → R3
  | some x, some y => knw x y true
  | _, _ => zz
def dif (a b : Sc) : R3 :=
  bif ((onl a).2.1 && (onl b).2.1) && decide ((onl a).1 = (onl b).1) then zz
  else two2 (bif (onl b).2.1 then edg a (onl b).1 else some a) (bif (onl a).2.1 then edg b (onl a).1 else some b)
theorem two2_nr (x : Option Sc) : two2 x none = zz := by cases x <;> rfl
theorem okE_f {x : Option Sc} (h : okE x = false) : ∀ y, two2 x y = zz ∧ two2 y x = zz := by
  intro y
  cases x with
  | none => exact ⟨by cases y <;> rfl, two2_nr y⟩
  | some s =>
    have : tgt s = none := tgt_none (of_decide_eq_false h)
    cases y with
    | none => exact ⟨rfl, rfl⟩
    | some t => exact ⟨knw_nl this, knw_nr this⟩
theorem E28_eq (a b : Sc) : E28 (a, b, ()) = some (dif a b) := by
  show S28 F27 G27 F41 G41 F42 G42 a b = _
  unfold S28 dif
  obtain ⟨t, ht, ht'⟩ := E42_ex a (onl b).1
  obtain ⟨s, hs, hs'⟩ := E42_ex b (onl a).1
  have u1 : F42 (a, (onl b).1, ()) = (t, (edg a (onl b).1).isSome, ()) := (ofE ht).1
  have u2 : G42 (a, (onl b).1, ()) = true := by show (E42 (a, (onl b).1, ())).isSome = true; rw [ht]; rfl
  have u3 : F42 (b, (onl a).1, ()) = (s, (edg b (onl a).1).isSome, ()) := (ofE hs).1
  have u4 : G42 (b, (onl a).1, ()) = true := by show (E42 (b, (onl a).1, ())).isSome = true; rw [hs]; rfl
  simp only [(F41_eq a).1, (F41_eq a).2, (F41_eq b).1, (F41_eq b).2, u1, u2, u3, u4, (F27_eq _ _).1, (F27_eq _ _).2]
  generalize (onl a).2.1 = p at *
  generalize (onl b).2.1 = q at *
  generalize decide ((onl a).1 = (onl b).1) = e at *
  cases hx : edg a (onl b).1 with
  | none =>
    cases hy : edg b (onl a).1 with
    | none => cases p <;> cases q <;> cases e <;> rfl
    | some y => rw [hs' y hy]; cases p <;> cases q <;> cases e <;> rfl
  | some x =>
    rw [ht' x hx]
    cases hy : edg b (onl a).1 with
    | none => cases p <;> cases q <;> cases e <;> rfl
    | some y => rw [hs' y hy]; cases p <;> cases q <;> cases e <;> rfl
theorem knw_ok (x y : Sc) : two2 (some x) (some y) = knw x y true := rfl
theorem E25_eq (a b : Sc) : E25 (a, b, ()) = some (dif a b) := by
  show S25 F22 G22 F24 G24 F40 G40 a b = _
  unfold S25 dif
  obtain ⟨t, ht, ht'⟩ := E40_ex a (onl b).1
  obtain ⟨s, hs, hs'⟩ := E40_ex b (onl a).1
  have u1 : F40 (a, (onl b).1, ()) = (t, okE (edg a (onl b).1), ()) := (ofE ht).1
  have u2 : G40 (a, (onl b).1, ()) = true := by show (E40 (a, (onl b).1, ())).isSome = true; rw [ht]; rfl
  have u3 : F40 (b, (onl a).1, ()) = (s, okE (edg b (onl a).1), ()) := (ofE hs).1
  have u4 : G40 (b, (onl a).1, ()) = true := by show (E40 (b, (onl a).1, ())).isSome = true; rw [hs]; rfl
  have n1 := fun h => (okE_f (x := edg a (onl b).1) h)
  have n2 := fun h => (okE_f (x := edg b (onl a).1) h)
  simp only [(F22_eq a).1, (F22_eq a).2, (F22_eq b).1, (F22_eq b).2, u1, u2, u3, u4, (F24_eq _ _ _).1, (F24_eq _ _ _).2]
  generalize (onl a).2.1 = p at *
  generalize (onl b).2.1 = q at *
  generalize decide ((onl a).1 = (onl b).1) = e at *
  cases hx : edg a (onl b).1 with
  | none =>
    cases hy : edg b (onl a).1 with
    | none => cases p <;> cases q <;> cases e <;> rfl
    | some y =>
      rw [hs' y hy]
      cases ho : okE (some y)
      · have k1 := fun z => (n2 (by rw [hy]; exact ho) z).1; have k2 := fun z => (n2 (by rw [hy]; exact ho) z).2
        simp only [hy] at k1 k2
        cases p <;> cases q <;> cases e <;> first | rfl | (simp only [Bool.and_true, Bool.and_false, Bool.true_and, Bool.false_and, cond_true, cond_false, knw_f, k1, k2]; rfl)
      · cases p <;> cases q <;> cases e <;> rfl
  | some x =>
    rw [ht' x hx]
    cases ho1 : okE (some x)
    · have k1 := fun z => (n1 (by rw [hx]; exact ho1) z).1
      simp only [hx] at k1
      cases hy : edg b (onl a).1 with
      | none => cases p <;> cases q <;> cases e <;> first | rfl | (simp only [Bool.and_true, Bool.and_false, Bool.true_and, Bool.false_and, cond_true, cond_false, knw_f, k1]; rfl)
      | some y =>
        rw [hs' y hy]
        cases ho : okE (some y)
        · have k2 := fun z => (n2 (by rw [hy]; exact ho) z).2
          simp only [hy] at k2
          cases p <;> cases q <;> cases e <;> first | rfl | (simp only [Bool.and_true, Bool.and_false, Bool.true_and, Bool.false_and, cond_true, cond_false, knw_f, k1, k2]; rfl)
        · cases p <;> cases q <;> cases e <;> first | rfl | (simp only [Bool.and_true, Bool.and_false, Bool.true_and, Bool.false_and, cond_true, cond_false, knw_f, k1]; rfl)
    · cases hy : edg b (onl a).1 with
      | none => cases p <;> cases q <;> cases e <;> first | rfl
      | some y =>
        rw [hs' y hy]
        cases ho : okE (some y)
        · have k2 := fun z => (n2 (by rw [hy]; exact ho) z).2
          simp only [hy] at k2
          cases p <;> cases q <;> cases e <;> first | rfl | (simp only [Bool.and_true, Bool.and_false, Bool.true_and, Bool.false_and, cond_true, cond_false, knw_f, k2]; rfl)
        · cases p <;> cases q <;> cases e <;> rfl
theorem F28_eq (a b : Sc) : F28 (a, b, ()) = dif a b ∧ G28 (a, b, ()) = true := ofE (E28_eq a b)
theorem F25_eq (a b : Sc) : F25 (a, b, ()) = dif a b ∧ G25 (a, b, ()) = true := ofE (E25_eq a b)
/-! ## Above, and bits in common -/
def hiA (a b : Sc) (m : Int) : Sc := (a.1, (if IntKind.wrap .u64 (b.2.1 + m) > a.2.1 then IntKind.wrap .u64 (b.2.1 + m) else a.2.1), a.2.2)
def loB (a b : Sc) (m : Int) : Sc := (b.1, b.2.1, (if IntKind.wrap .u64 (a.2.2.1 - m) < b.2.2.1 then IntKind.wrap .u64 (a.2.2.1 - m) else b.2.2.1), b.2.2.2)
def abv (a b : Sc) (strict : Bool) : R3 :=
  bif strict then (bif decide (b.2.1 = 18446744073709551615) then zz else bif decide (a.2.2.1 = 0) then zz else knw (hiA a b 1) (loB a b 1) true)
  else knw (hiA a b 0) (loB a b 0) true
theorem E29_eq (a b : Sc) (s : Bool) : E29 (a, b, s, ()) = some (abv a b s) := by
  show S29 F27 G27 a b s = _
  unfold S29 abv
  simp only [(F27_eq _ _).1, (F27_eq _ _).2]
  cases s
  · rfl
  · generalize decide (b.2.1 = 18446744073709551615) = p
    generalize decide (a.2.2.1 = 0) = q
    cases p <;> cases q <;> rfl
theorem F29_eq (a b : Sc) (s : Bool) : F29 (a, b, s, ()) = abv a b s ∧ G29 (a, b, s, ()) = true := ofE (E29_eq a b s)
theorem F30_eq (b a : Sc) (ok : Bool) : F30 (b, a, ok, ()) = (a, b, ok, ()) ∧ G30 (b, a, ok, ()) = true := ⟨rfl, rfl⟩
def pow2 (c : Int) : Bool := !decide (c = 0) && decide (iand .u64 c (IntKind.wrap .u64 (c - 1)) = 0)
def setA (a : Sc) (c : Int) : Sc := ((ior .u64 a.1.1 c, iandn .u64 a.1.2.1 c, ()), a.2)
def clrA (a : Sc) (c : Int) : Sc := ((a.1.1, iandn .u64 a.1.2.1 c, ()), a.2)
def shr (a b : Sc) : R3 :=
  bif decide (iand .u64 (ior .u64 a.1.1 a.1.2.1) (ior .u64 b.1.1 b.1.2.1) = 0) then zz
  else knw (bif (onl b).2.1 && pow2 (onl b).1 then setA a (onl b).1 else a) b true
def nsh (a b : Sc) : R3 :=
  bif !decide (iand .u64 a.1.1 b.1.1 = 0) then zz else knw (bif (onl b).2.1 then clrA a (onl b).1 else a) b true
theorem E31_eq (a b : Sc) (s : Bool) : E31 (a, b, s, ()) = some (bif s then shr a b else nsh a b) := by
  show S31 F27 G27 F41 G41 a b s = _
  unfold S31 shr nsh pow2
  simp only [(F27_eq _ _).1, (F27_eq _ _).2, (F41_eq b).1, (F41_eq b).2]
  generalize hq : (onl b).2.1 = q
  cases s
  · generalize decide (iand .u64 a.1.1 b.1.1 = 0) = e
    cases e <;> cases q <;> rfl
  · generalize decide (iand .u64 (ior .u64 a.1.1 a.1.2.1) (ior .u64 b.1.1 b.1.2.1) = 0) = e
    generalize decide ((onl b).1 = 0) = f
    generalize decide (iand .u64 (onl b).1 (IntKind.wrap .u64 ((onl b).1 - 1)) = 0) = g
    cases e <;> cases q <;> cases f <;> cases g <;> rfl
theorem F31_eq (a b : Sc) (s : Bool) : F31 (a, b, s, ()) = (bif s then shr a b else nsh a b) ∧ G31 (a, b, s, ()) = true := ofE (E31_eq a b s)
def mtS (a b : Sc) : Sc := (metF a.1 b.1, (if b.2.1 > a.2.1 then b.2.1 else a.2.1), (if b.2.2.1 < a.2.2.1 then b.2.2.1 else a.2.2.1), ())
def mtt (a b : Sc) : R3 := bif metB a.1 b.1 then knw (mtS a b) (mtS a b) true else zz
end Go.Proofs
